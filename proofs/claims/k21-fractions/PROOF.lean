import PyProof.Rows.All
import HandS.ForMost
import HandS.ForExc
import HandS.Walk
import HandS.CallSlots
import HandS.Wide
import HandS.TupAny
import HandS.TupMul
import HandS.TupLe
import HandS.Deep
import HandS.Style
import HandS.Sort
import HandS.IsInst
import HandS.Zip
import HandS.Conv
import HandS.Flow
import HandS.Star
import HandS.RaiseMore
import HandS.Small
import HandS.Defaults
import HandS.EndBits
import HandS.HeadEnd
import HandS.Head0
import HandS.Head1
import HandS.Head2
import HandS.HeadHook1
import HandS.HeadHook2
import KE.KStateDown
import PySem.Challenge.RW_eitherbarter_k21_fractions
set_option Elab.async false
set_option linter.all false
set_option maxRecDepth 100000
set_option maxHeartbeats 0
section
/-! Mp1: deep data D, owned data O, how they stand in the abstract heap. -/
namespace Mp
open PySem L2

/-- a text's code points -/
abbrev Sg := List Nat
def toStr (s : Sg) : Str := ⟨s.toArray⟩
theorem toStr_inj {s t : Sg} (h : toStr s = toStr t) : s = t := by
  have h2 : (toStr s).cps.toList = (toStr t).cps.toList := by rw [h]
  simpa [toStr] using h2
/-- a dict's plain key -/
inductive Kb where
  | i (n : Int) | s (x : Sg)
  deriving DecidableEq
def Kb.key : Kb → Key
  | .i n => .inl n
  | .s x => .inr (toStr x)
theorem Kb.key_inj : ∀ {a b : Kb}, a.key = b.key → a = b
  | .i n, .i m, h => by
    have e : n = m := Sum.inl.inj h
    rw [e]
  | .s x, .s y, h => by
    have e : x = y := toStr_inj (Sum.inr.inj h)
    rw [e]
  | .i _, .s _, h => nomatch h
  | .s _, .i _, h => nomatch h

/-- deep data, never changed any more -/
inductive D where
  | non | bl (b : Bool) | int (i : Int) | str (s : Sg)
  | tup (xs : List D) | lst (xs : List D)
  | dK (ks : List Kb) (vs : List D)
  | dT (ks : List (List Kb)) (vs : List D)
  | ins (c : Nat) (vs : List D)
  | fn (k : Nat)
  | rng (lo hi : Int)
  | scr (ns : List Int)

/-- data one holds alone, with what in it may still change -/
inductive O where
  | sh (d : D)
  | lst (xs : List O)
  | dK (ks : List Kb) (vs : List O)
  | dT (ks : List (List Kb)) (vs : List O)
  | ins (c : Nat) (vs : List O)

mutual
def O.share : O → D
  | .sh d => d
  | .lst xs => .lst (O.shares xs)
  | .dK ks vs => .dK ks (O.shares vs)
  | .dT ks vs => .dT ks (O.shares vs)
  | .ins c vs => .ins c (O.shares vs)
def O.shares : List O → List D
  | [] => []
  | x :: xs => x.share :: O.shares xs
end
theorem O.shares_map : ∀ xs : List O, O.shares xs = xs.map O.share
  | [] => by simp [O.shares]
  | x :: xs => by simp [O.shares, O.shares_map xs]
theorem O.shares_sh : ∀ ds : List D, O.shares (ds.map O.sh) = ds
  | [] => by simp [O.shares]
  | d :: ds => by simp [O.shares, O.share, O.shares_sh ds]

/-- the world: the written part, where the classes and defs stand, the classes' fields in order -/
structure Wd where
  K : PySem.W.Frag
  cls : Nat → Addr
  fld : Nat → List Str
  fn : Nat → Addr

section
variable (c : Wd) (S : Hp)
mutual
/-- the value v is d, all in S -/
def Rep : D → V → Prop
  | .non, v => v = .non
  | .bl b, v => v = .bl b
  | .int i, v => v = .int i
  | .str s, v => v = .str (toStr s)
  | .tup ds, v => ∃ a vs, v = .ref a ∧ S a = some (.tup vs) ∧ Reps ds vs
  | .lst ds, v => ∃ a vs, v = .ref a ∧ S a = some (.lst vs) ∧ Reps ds vs
  | .scr ns, v => ∃ a, v = .ref a ∧ SqL c.K S a (ns.map V.int)
  | .dK ks ds, v => ∃ a vs, v = .ref a ∧ S a = some (.dK ((ks.map Kb.key).zip vs)) ∧ ks.length = vs.length ∧ Reps ds vs
  | .dT ks ds, v => ∃ a vs, v = .ref a ∧ S a = some (.dT ((ks.map fun k => k.map Kb.key).zip vs)) ∧ ks.length = vs.length ∧ Reps ds vs
  | .ins k ds, v => ∃ a dx vs, v = .ref a ∧ S a = some (.ins (c.cls k) dx ((c.fld k).zip vs)) ∧ S dx = some (.own a) ∧ vs.length ≤ (c.fld k).length ∧ Reps ds vs
  | .fn k, v => v = .ref (c.fn k)
  | .rng lo hi, v => ∃ a, v = .ref a ∧ S a = some (.rng lo hi)
def Reps : List D → List V → Prop
  | [], vs => vs = []
  | d :: ds, vs => ∃ v r, vs = v :: r ∧ Rep d v ∧ Reps ds r
end
end

section
variable {c : Wd} {S S' : Hp}
mutual
theorem Rep.mono (h : Same S S') : ∀ (d : D) (v : V), Rep c S d v → Rep c S' d v
  | .non, v, r => by simpa only [Rep] using r
  | .bl b, v, r => by simpa only [Rep] using r
  | .int i, v, r => by simpa only [Rep] using r
  | .str s, v, r => by simpa only [Rep] using r
  | .tup ds, v, r => by
    simp only [Rep] at r ⊢
    obtain ⟨a, vs, e, q, z⟩ := r
    exact ⟨a, vs, e, h _ _ q, Reps.mono h ds vs z⟩
  | .lst ds, v, r => by
    simp only [Rep] at r ⊢
    obtain ⟨a, vs, e, q, z⟩ := r
    exact ⟨a, vs, e, h _ _ q, Reps.mono h ds vs z⟩
  | .scr ns, v, r => by
    simp only [Rep] at r ⊢
    obtain ⟨a, e, q⟩ := r
    exact ⟨a, e, h.seq q⟩
  | .dK ks ds, v, r => by
    simp only [Rep] at r ⊢
    obtain ⟨a, vs, e, q, l, z⟩ := r
    exact ⟨a, vs, e, h _ _ q, l, Reps.mono h ds vs z⟩
  | .dT ks ds, v, r => by
    simp only [Rep] at r ⊢
    obtain ⟨a, vs, e, q, l, z⟩ := r
    exact ⟨a, vs, e, h _ _ q, l, Reps.mono h ds vs z⟩
  | .ins k ds, v, r => by
    simp only [Rep] at r ⊢
    obtain ⟨a, dx, vs, e, q, q2, l, z⟩ := r
    exact ⟨a, dx, vs, e, h _ _ q, h _ _ q2, l, Reps.mono h ds vs z⟩
  | .fn k, v, r => by simpa only [Rep] using r
  | .rng lo hi, v, r => by
    simp only [Rep] at r ⊢
    obtain ⟨a, e, q⟩ := r
    exact ⟨a, e, h _ _ q⟩
theorem Reps.mono (h : Same S S') : ∀ (ds : List D) (vs : List V), Reps c S ds vs → Reps c S' ds vs
  | [], vs, r => by simpa only [Reps] using r
  | d :: ds, vs, r => by
    simp only [Reps] at r ⊢
    obtain ⟨v, l, e, q, z⟩ := r
    exact ⟨v, l, e, Rep.mono h d v q, Reps.mono h ds l z⟩
end
theorem Reps.length : ∀ {ds : List D} {vs : List V}, Reps c S ds vs → vs.length = ds.length
  | [], vs, r => by
    simp only [Reps] at r
    simp [r]
  | d :: ds, vs, r => by
    simp only [Reps] at r
    obtain ⟨v, l, rfl, _, z⟩ := r
    simp [Reps.length z]
theorem Reps.get : ∀ {ds : List D} {vs : List V} {i : Nat} {d : D}, Reps c S ds vs → ds[i]? = some d → ∃ v, vs[i]? = some v ∧ Rep c S d v
  | [], vs, i, d, r, h => by simp at h
  | d :: ds, vs, 0, e, r, h => by
    simp only [Reps] at r
    obtain ⟨v, l, rfl, q, _⟩ := r
    simp at h
    subst h
    exact ⟨v, rfl, q⟩
  | d :: ds, vs, i + 1, e, r, h => by
    simp only [Reps] at r
    obtain ⟨v, l, rfl, _, z⟩ := r
    simpa using Reps.get z (by simpa using h)
theorem Reps.append : ∀ {ds es : List D} {vs ws : List V}, Reps c S ds vs → Reps c S es ws → Reps c S (ds ++ es) (vs ++ ws)
  | [], es, vs, ws, r, q => by
    simp only [Reps] at r
    subst r
    exact q
  | d :: ds, es, vs, ws, r, q => by
    simp only [Reps] at r
    obtain ⟨v, l, rfl, x, z⟩ := r
    exact ⟨v, l ++ ws, rfl, x, Reps.append z q⟩
theorem Reps.take : ∀ {ds : List D} {vs : List V} (n : Nat), Reps c S ds vs → Reps c S (ds.take n) (vs.take n)
  | [], vs, n, r => by
    simp only [Reps] at r
    subst r
    simp [Reps]
  | d :: ds, vs, 0, r => by simp [Reps]
  | d :: ds, vs, n + 1, r => by
    simp only [Reps] at r
    obtain ⟨v, l, rfl, x, z⟩ := r
    exact ⟨v, _, rfl, x, Reps.take n z⟩
theorem Reps.drop : ∀ {ds : List D} {vs : List V} (n : Nat), Reps c S ds vs → Reps c S (ds.drop n) (vs.drop n)
  | [], vs, n, r => by
    simp only [Reps] at r
    subst r
    simp [Reps]
  | d :: ds, vs, 0, r => by simpa using r
  | d :: ds, vs, n + 1, r => by
    simp only [Reps] at r
    obtain ⟨v, l, rfl, x, z⟩ := r
    simpa using Reps.drop n z
theorem Reps.one {d : D} {v : V} (r : Rep c S d v) : Reps c S [d] [v] := ⟨v, [], rfl, r, by simp only [Reps]⟩
theorem Reps.reverse : ∀ {ds : List D} {vs : List V}, Reps c S ds vs → Reps c S ds.reverse vs.reverse
  | [], vs, r => by
    simp only [Reps] at r
    subst r
    simp [Reps]
  | d :: ds, vs, r => by
    simp only [Reps] at r
    obtain ⟨v, l, rfl, x, z⟩ := r
    rw [List.reverse_cons, List.reverse_cons]
    exact Reps.append (Reps.reverse z) (Reps.one x)

/-! ### owned data -/
section
variable (c : Wd) (S H : Hp)
mutual
/-- the value v is o: what is shared in S, what one holds alone at the places A, in H and not in S -/
def Ro : O → V → List Addr → Prop
  | .sh d, v, A => Rep c S d v ∧ A = []
  | .lst xs, v, A => ∃ a vs B, v = .ref a ∧ A = a :: B ∧ H a = some (.lst vs) ∧ S a = none ∧ Ros xs vs B
  | .dK ks xs, v, A => ∃ a vs B, v = .ref a ∧ A = a :: B ∧ H a = some (.dK ((ks.map Kb.key).zip vs)) ∧ S a = none ∧ ks.length = vs.length ∧ Ros xs vs B
  | .dT ks xs, v, A => ∃ a vs B, v = .ref a ∧ A = a :: B ∧ H a = some (.dT ((ks.map fun k => k.map Kb.key).zip vs)) ∧ S a = none ∧ ks.length = vs.length ∧ Ros xs vs B
  | .ins k xs, v, A => ∃ a dx vs B, v = .ref a ∧ A = a :: dx :: B ∧ H a = some (.ins (c.cls k) dx ((c.fld k).zip vs)) ∧ H dx = some (.own a) ∧ S a = none ∧ S dx = none ∧ vs.length ≤ (c.fld k).length ∧ Ros xs vs B
def Ros : List O → List V → List Addr → Prop
  | [], vs, A => vs = [] ∧ A = []
  | x :: xs, vs, A => ∃ v r A1 A2, vs = v :: r ∧ A = A1 ++ A2 ∧ Ro x v A1 ∧ Ros xs r A2
end
end
section
variable {H H' : Hp}
mutual
/-- what one holds alone stays where it is not touched -/
theorem Ro.frame (h : Same S S') : ∀ (o : O) (v : V) (A : List Addr), Ro c S H o v A → (∀ a ∈ A, H' a = H a ∧ S' a = S a) → Ro c S' H' o v A
  | .sh d, v, A, r, k => by
    simp only [Ro] at r ⊢
    exact ⟨Rep.mono h _ _ r.1, r.2⟩
  | .lst xs, v, A, r, k => by
    simp only [Ro] at r ⊢
    obtain ⟨a, vs, B, e, rfl, p, q, z⟩ := r
    obtain ⟨k1, k2⟩ := k a List.mem_cons_self
    exact ⟨a, vs, B, e, rfl, k1.trans p, k2.trans q, Ros.frame h xs vs B z fun b hb => k b (List.mem_cons_of_mem _ hb)⟩
  | .dK ks xs, v, A, r, k => by
    simp only [Ro] at r ⊢
    obtain ⟨a, vs, B, e, rfl, p, q, l, z⟩ := r
    obtain ⟨k1, k2⟩ := k a List.mem_cons_self
    exact ⟨a, vs, B, e, rfl, k1.trans p, k2.trans q, l, Ros.frame h xs vs B z fun b hb => k b (List.mem_cons_of_mem _ hb)⟩
  | .dT ks xs, v, A, r, k => by
    simp only [Ro] at r ⊢
    obtain ⟨a, vs, B, e, rfl, p, q, l, z⟩ := r
    obtain ⟨k1, k2⟩ := k a List.mem_cons_self
    exact ⟨a, vs, B, e, rfl, k1.trans p, k2.trans q, l, Ros.frame h xs vs B z fun b hb => k b (List.mem_cons_of_mem _ hb)⟩
  | .ins i xs, v, A, r, k => by
    simp only [Ro] at r ⊢
    obtain ⟨a, dx, vs, B, e, rfl, p, p2, q, q2, l, z⟩ := r
    obtain ⟨k1, k2⟩ := k a List.mem_cons_self
    obtain ⟨k3, k4⟩ := k dx (List.mem_cons_of_mem _ List.mem_cons_self)
    exact ⟨a, dx, vs, B, e, rfl, k1.trans p, k3.trans p2, k2.trans q, k4.trans q2, l, Ros.frame h xs vs B z fun b hb => k b (List.mem_cons_of_mem _ (List.mem_cons_of_mem _ hb))⟩
theorem Ros.frame (h : Same S S') : ∀ (os : List O) (vs : List V) (A : List Addr), Ros c S H os vs A → (∀ a ∈ A, H' a = H a ∧ S' a = S a) → Ros c S' H' os vs A
  | [], vs, A, r, k => by simpa only [Ros] using r
  | x :: xs, vs, A, r, k => by
    simp only [Ros] at r ⊢
    obtain ⟨v, l, A1, A2, e, rfl, p, z⟩ := r
    exact ⟨v, l, A1, A2, e, rfl, Ro.frame h x v A1 p fun a ha => k a (List.mem_append_left _ ha), Ros.frame h xs l A2 z fun a ha => k a (List.mem_append_right _ ha)⟩
end
mutual
/-- the places are tracked, and not shared -/
theorem Ro.held : ∀ (o : O) (v : V) (A : List Addr), Ro c S H o v A → ∀ a ∈ A, (∃ x, H a = some x) ∧ S a = none
  | .sh d, v, A, r => by
    simp only [Ro] at r
    rw [r.2]
    intro a h
    exact absurd h (by simp)
  | .lst xs, v, A, r => by
    simp only [Ro] at r
    obtain ⟨a, vs, B, e, rfl, p, q, z⟩ := r
    intro b hb
    rcases List.mem_cons.mp hb with rfl | hb
    · exact ⟨⟨_, p⟩, q⟩
    · exact Ros.held xs vs B z b hb
  | .dK ks xs, v, A, r => by
    simp only [Ro] at r
    obtain ⟨a, vs, B, e, rfl, p, q, l, z⟩ := r
    intro b hb
    rcases List.mem_cons.mp hb with rfl | hb
    · exact ⟨⟨_, p⟩, q⟩
    · exact Ros.held xs vs B z b hb
  | .dT ks xs, v, A, r => by
    simp only [Ro] at r
    obtain ⟨a, vs, B, e, rfl, p, q, l, z⟩ := r
    intro b hb
    rcases List.mem_cons.mp hb with rfl | hb
    · exact ⟨⟨_, p⟩, q⟩
    · exact Ros.held xs vs B z b hb
  | .ins i xs, v, A, r => by
    simp only [Ro] at r
    obtain ⟨a, dx, vs, B, e, rfl, p, p2, q, q2, l, z⟩ := r
    intro b hb
    rcases List.mem_cons.mp hb with rfl | hb
    · exact ⟨⟨_, p⟩, q⟩
    · rcases List.mem_cons.mp hb with rfl | hb
      · exact ⟨⟨_, p2⟩, q2⟩
      · exact Ros.held xs vs B z b hb
theorem Ros.held : ∀ (os : List O) (vs : List V) (A : List Addr), Ros c S H os vs A → ∀ a ∈ A, (∃ x, H a = some x) ∧ S a = none
  | [], vs, A, r => by
    simp only [Ros] at r
    rw [r.2]
    intro a h
    exact absurd h (by simp)
  | x :: xs, vs, A, r => by
    simp only [Ros] at r
    obtain ⟨v, l, A1, A2, e, rfl, p, z⟩ := r
    intro b hb
    rcases List.mem_append.mp hb with hb | hb
    · exact Ro.held x v A1 p b hb
    · exact Ros.held xs l A2 z b hb
end
theorem Ros.length : ∀ {os : List O} {vs : List V} {A : List Addr}, Ros c S H os vs A → vs.length = os.length
  | [], vs, A, r => by
    simp only [Ros] at r
    simp [r.1]
  | x :: xs, vs, A, r => by
    simp only [Ros] at r
    obtain ⟨v, l, A1, A2, rfl, _, p, z⟩ := r
    simp [Ros.length z]
/-- what stands at A (in H) is shared too from now on -/
def joinH (S H : Hp) (A : List Addr) : Hp := fun a => if a ∈ A then H a else S a
theorem joinH_in {A : List Addr} {a : Addr} (h : a ∈ A) : joinH S H A a = H a := if_pos h
theorem joinH_out {A : List Addr} {a : Addr} (h : a ∉ A) : joinH S H A a = S a := if_neg h
theorem joinH_same {A : List Addr} (h : ∀ a ∈ A, S a = none) : Same S (joinH S H A) := fun a o e => by
  by_cases ha : a ∈ A
  · rw [h a ha] at e
    cases e
  · rw [joinH_out ha]
    exact e
mutual
/-- owned data seen as deep data, in any heap that has S and the places -/
theorem Ro.rep {T : Hp} (h : Same S T) : ∀ (o : O) (v : V) (A : List Addr), Ro c S H o v A → (∀ a ∈ A, T a = H a) → Rep c T o.share v
  | .sh d, v, A, r, k => by
    simp only [Ro, O.share] at r ⊢
    exact Rep.mono h _ _ r.1
  | .lst xs, v, A, r, k => by
    simp only [Ro, O.share, Rep] at r ⊢
    obtain ⟨a, vs, B, e, rfl, p, q, z⟩ := r
    exact ⟨a, vs, e, (k a List.mem_cons_self).trans p, Ros.reps h xs vs B z fun b hb => k b (List.mem_cons_of_mem _ hb)⟩
  | .dK ks xs, v, A, r, k => by
    simp only [Ro, O.share, Rep] at r ⊢
    obtain ⟨a, vs, B, e, rfl, p, q, l, z⟩ := r
    exact ⟨a, vs, e, (k a List.mem_cons_self).trans p, l, Ros.reps h xs vs B z fun b hb => k b (List.mem_cons_of_mem _ hb)⟩
  | .dT ks xs, v, A, r, k => by
    simp only [Ro, O.share, Rep] at r ⊢
    obtain ⟨a, vs, B, e, rfl, p, q, l, z⟩ := r
    exact ⟨a, vs, e, (k a List.mem_cons_self).trans p, l, Ros.reps h xs vs B z fun b hb => k b (List.mem_cons_of_mem _ hb)⟩
  | .ins i xs, v, A, r, k => by
    simp only [Ro, O.share, Rep] at r ⊢
    obtain ⟨a, dx, vs, B, e, rfl, p, p2, q, q2, l, z⟩ := r
    exact ⟨a, dx, vs, e, (k a List.mem_cons_self).trans p, (k dx (List.mem_cons_of_mem _ List.mem_cons_self)).trans p2, l, Ros.reps h xs vs B z fun b hb => k b (List.mem_cons_of_mem _ (List.mem_cons_of_mem _ hb))⟩
theorem Ros.reps {T : Hp} (h : Same S T) : ∀ (os : List O) (vs : List V) (A : List Addr), Ros c S H os vs A → (∀ a ∈ A, T a = H a) → Reps c T (O.shares os) vs
  | [], vs, A, r, k => by
    simp only [Ros, O.shares, Reps] at r ⊢
    exact r.1
  | x :: xs, vs, A, r, k => by
    simp only [Ros, O.shares, Reps] at r ⊢
    obtain ⟨v, l, A1, A2, e, rfl, p, z⟩ := r
    exact ⟨v, l, e, Ro.rep h x v A1 p fun a ha => k a (List.mem_append_left _ ha), Ros.reps h xs l A2 z fun a ha => k a (List.mem_append_right _ ha)⟩
end
theorem Ros.of_reps : ∀ {ds : List D} {vs : List V}, Reps c S ds vs → Ros c S H (ds.map O.sh) vs []
  | [], vs, r => by
    simp only [Reps] at r
    subst r
    simp [Ros]
  | d :: ds, vs, r => by
    simp only [Reps] at r
    obtain ⟨v, l, rfl, p, z⟩ := r
    exact ⟨v, l, [], [], rfl, rfl, by simp only [Ro]; exact ⟨p, trivial⟩, Ros.of_reps z⟩
theorem Ros.append : ∀ {xs ys : List O} {vs ws : List V} {A B : List Addr}, Ros c S H xs vs A → Ros c S H ys ws B → Ros c S H (xs ++ ys) (vs ++ ws) (A ++ B)
  | [], ys, vs, ws, A, B, r, q => by
    simp only [Ros] at r
    obtain ⟨rfl, rfl⟩ := r
    exact q
  | x :: xs, ys, vs, ws, A, B, r, q => by
    simp only [Ros] at r
    obtain ⟨v, l, A1, A2, rfl, rfl, p, z⟩ := r
    exact ⟨v, l ++ ws, A1, A2 ++ B, rfl, List.append_assoc .., p, Ros.append z q⟩
end
end
end Mp
end
section
/-! Mp2: environments, steps, the evaluator's monad, readings. -/
namespace Mp
open PySem L2

abbrev Env := List (Option O)
/-- an exception of the program's: its class, its own attributes -/
structure Ex where
  c : Nat
  vs : List D
inductive Out (α : Type) where
  | ok (a : α) | ex (e : Ex) | bad
abbrev M (α : Type) := Env → Out α × Env
section
variable {α β : Type}
def ret (a : α) : M α := fun env => (.ok a, env)
def bad : M α := fun env => (.bad, env)
def bnd (m : M α) (f : α → M β) : M β := fun env => match m env with
  | (.ok a, e1) => f a e1
  | (.ex x, e1) => (.ex x, e1)
  | (.bad, e1) => (.bad, e1)
def lift (o : Option α) : M α := fun env => match o with
  | some a => (.ok a, env)
  | none => (.bad, env)
end

/-- what may not be turned by any rule but its own: tables of code objects, known objects -/
def fixO : HO → Prop
  | .tbl _ => True
  | .ext _ => True
  | _ => False
structure WdOk (c : Wd) (J : Hp → Prop) : Prop where
  jk : ∀ H H', J H → (∀ a o, H a = some o → fixO o → H' a = some o) → J H'

abbrev Uset := Addr → Prop
def un (F : Nat → List Addr) : Uset := fun a => ∃ i, a ∈ F i
def plus (U : Uset) (A : List Addr) : Uset := fun a => U a ∨ a ∈ A

section
variable (c : Wd) (J : Hp → Prop)
structure Good (σ : St) (H S : Hp) (env : Env) (F : Nat → List Addr) : Prop where
  sub : Same S H
  inv : J H
  rep : ∀ i o, env[i]? = some (some o) → ∃ v, σ[i]? = some (some v) ∧ Ro c S H o v (F i)
  nod : ∀ i, (F i).Nodup
  dis : ∀ i j a, a ∈ F i → a ∈ F j → i = j
  nil : ∀ i, (∀ o, env[i]? ≠ some (some o)) → F i = []
  len : env.length = σ.length
/-- from S, H, what may be changed U, to S', H', U' -/
structure Step (S H : Hp) (U : Uset) (S' H' : Hp) (U' : Uset) : Prop where
  sh : Same S S'
  keep : ∀ a o, H a = some o → ¬ U a → H' a = some o ∧ S' a = S a ∧ ¬ U' a
end
/-- places one holds beside U -/
structure Apart (A : List Addr) (U : Uset) : Prop where
  nod : A.Nodup
  out : ∀ a ∈ A, ¬ U a

section
variable {c : Wd} {J : Hp → Prop} {S H S' H' S1 H1 S2 H2 : Hp} {U U' U1 U2 : Uset} {A B : List Addr} {σ : St} {env : Env} {F : Nat → List Addr}
theorem Step.refl : Step S H U S H U := ⟨Same.refl _, fun a o h n => ⟨h, rfl, n⟩⟩
theorem Step.trans (x : Step S H U S1 H1 U1) (y : Step S1 H1 U1 S2 H2 U2) : Step S H U S2 H2 U2 :=
  ⟨x.sh.trans y.sh, fun a o h n => by
    obtain ⟨h1, h2, h3⟩ := x.keep a o h n
    obtain ⟨k1, k2, k3⟩ := y.keep a o h1 h3
    exact ⟨k1, k2.trans h2, k3⟩⟩
theorem Step.post (x : Step S H U S1 H1 U1) (h : ∀ a, U2 a → U1 a) : Step S H U S1 H1 U2 :=
  ⟨x.sh, fun a o q n => by
    obtain ⟨h1, h2, h3⟩ := x.keep a o q n
    exact ⟨h1, h2, fun z => h3 (h a z)⟩⟩
theorem Step.pre (x : Step S H U S1 H1 U1) (h : ∀ a, U a → U2 a) : Step S H U2 S1 H1 U1 :=
  ⟨x.sh, fun a o q n => x.keep a o q fun z => n (h a z)⟩
theorem Step.pend (x : Step S H U S1 H1 U1) (A : List Addr) : Step S H (plus U A) S1 H1 (plus U1 A) :=
  ⟨x.sh, fun a o q n => by
    obtain ⟨h1, h2, h3⟩ := x.keep a o q fun z => n (.inl z)
    exact ⟨h1, h2, fun z => z.elim h3 fun z => n (.inr z)⟩⟩
theorem plus_nil {a : Addr} : plus U [] a ↔ U a := by simp [plus]
/-- what was laid aside stays as it was -/
theorem Step.aside (x : Step S H U S1 H1 U1) (A : List Addr) (held : ∀ a ∈ A, ∃ o, H a = some o) (out : ∀ a ∈ A, ¬ U a) : ∀ a ∈ A, H1 a = H a ∧ S1 a = S a := fun a ha => by
  obtain ⟨o, e⟩ := held a ha
  obtain ⟨h1, h2, _⟩ := x.keep a o e (out a ha)
  exact ⟨h1.trans e.symm, h2⟩
theorem Step.ro (x : Step S H U S1 H1 U1) {o : O} {v : V} (r : Ro c S H o v A) (out : ∀ a ∈ A, ¬ U a) : Ro c S1 H1 o v A :=
  Ro.frame x.sh o v A r (x.aside A (fun a ha => (Ro.held o v A r a ha).1) out)
theorem Step.ros (x : Step S H U S1 H1 U1) {os : List O} {vs : List V} (r : Ros c S H os vs A) (out : ∀ a ∈ A, ¬ U a) : Ros c S1 H1 os vs A :=
  Ros.frame x.sh os vs A r (x.aside A (fun a ha => (Ros.held os vs A r a ha).1) out)
theorem Step.out (x : Step S H U S1 H1 U1) (held : ∀ a ∈ A, ∃ o, H a = some o) (out : ∀ a ∈ A, ¬ U a) : ∀ a ∈ A, ¬ U1 a := fun a ha => by
  obtain ⟨o, e⟩ := held a ha
  exact (x.keep a o e (out a ha)).2.2

/-- new objects alone: all that was is as it was -/
structure Grow (S H S' H' : Hp) : Prop where
  h : Same H H'
  s : Same S S'
  k : ∀ a o, H a = some o → S' a = S a
theorem Grow.refl : Grow S H S H := ⟨Same.refl _, Same.refl _, fun _ _ _ => rfl⟩
theorem Grow.trans (x : Grow S H S1 H1) (y : Grow S1 H1 S2 H2) : Grow S H S2 H2 := ⟨x.h.trans y.h, x.s.trans y.s, fun a o e => (y.k a o (x.h a o e)).trans (x.k a o e)⟩
theorem Grow.step (x : Grow S H S' H') (h : ∀ a ∈ A, H a = none) : Step S H U S' H' (plus U A) :=
  ⟨x.s, fun a o e n => ⟨x.h a o e, x.k a o e, fun z => z.elim n fun z => by
    rw [h a z] at e
    cases e⟩⟩
theorem Grow.good (x : Grow S H S' H') (w : WdOk c J) (hs : Same S' H') (g : Good c J σ H S env F) : Good c J σ H' S' env F where
  sub := hs
  inv := w.jk H H' g.inv fun a o e _ => x.h a o e
  rep := fun i o e => by
    obtain ⟨v, e1, r⟩ := g.rep i o e
    refine ⟨v, e1, Ro.frame x.s o v _ r fun a ha => ?_⟩
    obtain ⟨⟨y, q⟩, _⟩ := Ro.held o v _ r a ha
    exact ⟨(x.h a y q).trans q.symm, x.k a y q⟩
  nod := g.nod
  dis := g.dis
  nil := g.nil
  len := g.len
theorem Good.held (g : Good c J σ H S env F) {a : Addr} (h : un F a) : (∃ o, H a = some o) ∧ S a = none := by
  obtain ⟨i, hi⟩ := h
  cases e : env[i]? with
  | none =>
    rw [g.nil i (fun o q => by rw [e] at q; cases q)] at hi
    exact absurd hi (by simp)
  | some x =>
    cases x with
    | none =>
      rw [g.nil i (fun o q => by rw [e] at q; cases q)] at hi
      exact absurd hi (by simp)
    | some o =>
      obtain ⟨v, _, r⟩ := g.rep i o e
      exact Ro.held o v _ r a hi
/-- what one holds is shared from now on -/
theorem Good.share (g : Good c J σ H S env F) {o : O} {v : V} (r : Ro c S H o v A) (ap : Apart A (un F)) :
    ∃ S', Good c J σ H S' env F ∧ Rep c S' o.share v ∧ Step S H (plus (un F) A) S' H (un F) ∧ Same S S' := by
  have hn : ∀ a ∈ A, S a = none := fun a ha => (Ro.held o v A r a ha).2
  have sm : Same S (joinH S H A) := joinH_same hn
  refine ⟨joinH S H A, ⟨fun a x e => ?_, g.inv, fun i o' e => ?_, g.nod, g.dis, g.nil, g.len⟩, Ro.rep sm o v A r fun a ha => joinH_in ha, ⟨sm, fun a x e n => ⟨e, joinH_out fun z => n (.inr z), fun z => n (.inl z)⟩⟩, sm⟩
  · by_cases ha : a ∈ A
    · rw [joinH_in ha] at e
      exact e
    · rw [joinH_out ha] at e
      exact g.sub a x e
  · obtain ⟨v', e1, r'⟩ := g.rep i o' e
    exact ⟨v', e1, Ro.frame sm o' v' _ r' fun a ha => ⟨rfl, joinH_out fun z => ap.out a z ⟨i, ha⟩⟩⟩
end

/-! ### readings -/
abbrev RR (α β : Type) := Hp → Hp → α → β → List Addr → Prop
section
variable (c : Wd) (J : Hp → Prop)
def RO : RR O V := fun S H o v A => Ro c S H o v A
def RD : RR D V := fun S _ d v A => Rep c S d v ∧ A = []
def RB : RR Bool Bool := fun _ _ b b' A => b' = b ∧ A = []
def ROs : RR (List O) (List V) := fun S H os vs A => Ros c S H os vs A
def RDs : RR (List D) (List V) := fun S _ ds vs A => Reps c S ds vs ∧ A = []
/-- an exception as it lies: its class, its own dict -/
def ExR (S : Hp) (e : Ex) (cls : Value) (d : Option Addr) (H : Hp) : Prop :=
  cls = .ref (c.cls e.c) ∧ ((e.vs = [] ∧ d = none) ∨ ∃ dx vs, d = some dx ∧ H dx = some (.xd ((c.fld e.c).zip vs)) ∧ vs.length ≤ (c.fld e.c).length ∧ Reps c S e.vs vs)
/-- an outcome of the evaluator's, from S, H, U: what is to hold of each end -/
def Fin {α β : Type} (R : RR α β) (W : WX) (S H : Hp) (U : Uset) (σ : L2.St) (Q : β → Hp → Prop) : Out α × Env → Prop
  | (.ok a, env') => ∀ b S' H' F' A', Good c J σ H' S' env' F' → Step S H U S' H' (plus (un F') A') → R S' H' a b A' → Apart A' (un F') → Q b H'
  | (.ex e, env') => ∀ cls d S' H' F', Good c J σ H' S' env' F' → Step S H U S' H' (un F') → ExR c S' e cls d H' → W cls d σ H'
  | (.bad, _) => False
/-- the evaluator's m, as a reading: what comes is R -/
def tG {α β : Type} (R : RR α β) (W : WX) (m : M α) (σ : L2.St) (H : Hp) (Q : β → Hp → Prop) : Prop :=
  ∃ env S F, Good c J σ H S env F ∧ Fin c J R W S H (un F) σ Q (m env)
end
abbrev tO (c : Wd) (J : Hp → Prop) (W : WX) (m : M O) : TE := tG c J (RO c) W m
abbrev tD (c : Wd) (J : Hp → Prop) (W : WX) (m : M D) : TE := tG c J (RD c) W m
abbrev tB (c : Wd) (J : Hp → Prop) (W : WX) (m : M Bool) : TT := tG c J RB W m
abbrev tL (c : Wd) (J : Hp → Prop) (W : WX) (m : M (List O)) : TA := tG c J (ROs c) W m
abbrev tLD (c : Wd) (J : Hp → Prop) (W : WX) (m : M (List D)) : TA := tG c J (RDs c) W m

section
variable {X : Cx} {e : Expr} {t t' : TE}
theorem PE.mono (h : PE X e t) (k : ∀ σ H Q, t' σ H Q → t σ H Q) : PE X e t' := ⟨fun pins s σ H Q I q => h.run pins s σ H Q I (k σ H Q q)⟩
theorem PT.mono {u u' : TT} (h : PT X e u) (k : ∀ σ H Q, u' σ H Q → u σ H Q) : PT X e u' := ⟨fun pins s σ H Q I q => h.run pins s σ H Q I (k σ H Q q)⟩
theorem PW.mono {u u' : TT} (h : PW X e u) (k : ∀ σ H Q, u' σ H Q → u σ H Q) : PW X e u' := ⟨fun w pins s σ H Q I q => h.run w pins s σ H Q I (k σ H Q q)⟩
theorem PA.mono {es : List Expr} {u u' : TA} (h : PA X es u) (k : ∀ σ H Q, u' σ H Q → u σ H Q) : PA X es u' := ⟨fun pos pins s σ H Q I q => h.run pos pins s σ H Q I (k σ H Q q)⟩
theorem PS.mono {st : Stmt} {u u' : TS} (h : PS X st u) (k : ∀ D σ H, u' D σ H → u D σ H) : PS X st u' := ⟨fun pins s σ H D I q => h.run pins s σ H D I (k D σ H q)⟩
theorem PSs.mono {st : List Stmt} {u u' : TS} (h : PSs X st u) (k : ∀ D σ H, u' D σ H → u D σ H) : PSs X st u' := ⟨fun pins s σ H D I q => h.run pins s σ H D I (k D σ H q)⟩
end

section
variable {c : Wd} {J : Hp → Prop} {W : WX} {α β γ δ : Type} {R : RR α β} {R2 : RR γ δ} {m : M α} {f : α → M γ} {σ : L2.St} {S H : Hp} {U : Uset} {Q : δ → Hp → Prop}
theorem Fin.step {r : Out γ × Env} (h : Fin c J R2 W S H U σ Q r) {S1 H1 : Hp} {U1 : Uset} (s : Step S H U S1 H1 U1) : Fin c J R2 W S1 H1 U1 σ Q r := by
  obtain ⟨r, env⟩ := r
  cases r with
  | ok a => exact fun b S' H' F' A' g s' => h b S' H' F' A' g (s.trans s')
  | ex e => exact fun cls d S' H' F' g s' => h cls d S' H' F' g (s.trans s')
  | bad => exact h
theorem Fin.pre {r : Out γ × Env} (h : Fin c J R2 W S H U σ Q r) {U1 : Uset} (s : ∀ a, U1 a → U a) : Fin c J R2 W S H U1 σ Q r := h.step ((Step.refl (U := U)).post s)
/-- one after the other; P lies aside -/
theorem Fin.seq {env : Env} {F : Nat → List Addr} {P : List Addr} (q : Fin c J R2 W S H (plus (un F) P) σ Q (bnd m f env)) {Q1 : β → Hp → Prop}
    (k : ∀ a env1 b S1 H1 F1 A1, m env = (.ok a, env1) → Good c J σ H1 S1 env1 F1 → Step S H (un F) S1 H1 (plus (un F1) A1) → R S1 H1 a b A1 → Apart A1 (un F1) →
      Fin c J R2 W S1 H1 (plus (plus (un F1) A1) P) σ Q (f a env1) → Q1 b H1) : Fin c J R W S H (un F) σ Q1 (m env) := by
  unfold bnd at q
  cases e : m env with
  | mk r env1 =>
    rw [e] at q
    cases r with
    | ok a => exact fun b S1 H1 F1 A1 g1 s1 r1 ap => k a env1 b S1 H1 F1 A1 e g1 s1 r1 ap (Fin.step (c := c) (J := J) (R2 := R2) (W := W) (σ := σ) (Q := Q) (r := f a env1) q (s1.pend P))
    | ex x => exact fun cls d S' H' F' g' s' r' => q cls d S' H' F' g' ((s'.pend P).post fun a h => .inl h) r'
    | bad => exact q
theorem Fin.nil {r : Out γ × Env} (h : Fin c J R2 W S H U σ Q r) : Fin c J R2 W S H (plus U []) σ Q r := h.pre fun a z => plus_nil.mp z
theorem Fin.unil {r : Out γ × Env} (h : Fin c J R2 W S H (plus U []) σ Q r) : Fin c J R2 W S H U σ Q r := h.pre fun a z => .inl z
/-- .. nothing aside -/
theorem Fin.seq0 {env : Env} {F : Nat → List Addr} (q : Fin c J R2 W S H (un F) σ Q (bnd m f env)) {Q1 : β → Hp → Prop}
    (k : ∀ a env1 b S1 H1 F1 A1, m env = (.ok a, env1) → Good c J σ H1 S1 env1 F1 → Step S H (un F) S1 H1 (plus (un F1) A1) → R S1 H1 a b A1 → Apart A1 (un F1) →
      Fin c J R2 W S1 H1 (plus (un F1) A1) σ Q (f a env1) → Q1 b H1) : Fin c J R W S H (un F) σ Q1 (m env) :=
  Fin.seq (P := []) q.nil fun a env1 b S1 H1 F1 A1 e g s r ap z => k a env1 b S1 H1 F1 A1 e g s r ap z.unil
/-- as data: what comes is shared -/
def shr (m : M O) : M D := bnd m fun o => ret o.share
theorem tO_shr {Q : VK} {m : M O} (h : tD c J W (shr m) σ H Q) : tO c J W m σ H Q := by
  obtain ⟨env, S, F, g, q⟩ := h
  refine ⟨env, S, F, g, Fin.seq0 q fun a env1 b S1 H1 F1 A1 e g1 s1 r1 ap q => ?_⟩
  obtain ⟨S2, g2, r2, s2, _⟩ := g1.share r1 ap
  exact q b S2 H1 F1 [] g2 (s2.post fun a h => plus_nil.mp h) ⟨r2, rfl⟩ ⟨List.nodup_nil, fun a h => absurd h (by simp)⟩
end
theorem pe_shr {X : Cx} {c : Wd} {J : Hp → Prop} {W : WX} {e : Expr} {m : M O} (h : PE X e (tO c J W m)) : PE X e (tD c J W (shr m)) := PE.mono h fun _ _ _ q => tO_shr q
/-- shared data as owned -/
def own (m : M D) : M O := bnd m fun d => ret (.sh d)
theorem pe_own {X : Cx} {c : Wd} {J : Hp → Prop} {W : WX} {e : Expr} {m : M D} (h : PE X e (tD c J W m)) : PE X e (tO c J W (own m)) := PE.mono h fun _ _ _ ⟨env, S, F, g, q⟩ => by
  refine ⟨env, S, F, g, Fin.seq0 q fun a env1 b S1 H1 F1 A1 e g1 s1 r1 ap q => ?_⟩
  obtain ⟨r1, rfl⟩ := r1
  exact q b S1 H1 F1 [] g1 Step.refl (by simp only [RO, Ro]; exact ⟨r1, trivial⟩) ap
end Mp
end
section
/-! Mp3: operators by values. -/
namespace Mp
open PySem L2 PyProof.Rows

theorem OpR.mono {X : Cx} {f : Value → Value → Sem Value} {r r' : R2} (h : OpR X f r) (k : ∀ x y H Q, r' x y H Q → r x y H Q) : OpR X f r' := by
  intro pins s σ H x y v u Q I rx ry q
  exact h pins s σ H x y v u Q I rx ry (k _ _ _ _ q)
theorem OpR.cases {X : Cx} {f : Value → Value → Sem Value} {r' : R2} (k : ∀ x y H Q, r' x y H Q → ∃ r, OpR X f r ∧ r x y H Q) : OpR X f r' := by
  intro pins s σ H x y v u Q I rx ry q
  obtain ⟨r, h, q'⟩ := k _ _ _ _ q
  exact h pins s σ H x y v u Q I rx ry q'
theorem CallR.cases {X : Cx} {f : Value} {r' : List V → Hp → VK → Prop} (k : ∀ xs H Q, r' xs H Q → ∃ r, CallR X f r ∧ r xs H Q) : CallR X f r' := by
  intro pins s σ H xs us Q I rx q
  obtain ⟨r, h, q'⟩ := k _ _ _ q
  exact h pins s σ H xs us Q I rx q'

section
variable (c : Wd)
/-- what is made of o: only new things -/
def Made (S H : Hp) (o : O) (Q : VK) : Prop := ∀ v S' H' A, Grow S H S' H' → Same S' H' → Ro c S' H' o v A → A.Nodup → (∀ a ∈ A, H a = none) → Q v H'
/-- an operator by deep data -/
def rG (g : D → D → Option O) : R2 := fun x y H Q => ∃ S dx dy o, Same S H ∧ Rep c S dx x ∧ Rep c S dy y ∧ g dx dy = some o ∧ Made c S H o Q
def rL (g : List D → Option O) : List V → Hp → VK → Prop := fun xs H Q => ∃ S ds o, Same S H ∧ Reps c S ds xs ∧ g ds = some o ∧ Made c S H o Q
end
section
variable {c : Wd} {S H : Hp} {Q : VK} {X : Cx}
theorem Made.sh {d : D} {v : V} (m : Made c S H (.sh d) Q) (hs : Same S H) (r : Rep c S d v) : Q v H := m v S H [] Grow.refl hs (by simp only [Ro]; exact ⟨r, trivial⟩) List.nodup_nil (fun a h => absurd h (by simp))
theorem Made.int {i : Int} (m : Made c S H (.sh (.int i)) Q) (hs : Same S H) : Q (.int i) H := m.sh hs (by simp only [Rep])
theorem Made.bl {b : Bool} (m : Made c S H (.sh (.bl b)) Q) (hs : Same S H) : Q (.bl b) H := m.sh hs (by simp only [Rep])
theorem Made.str {s : Sg} (m : Made c S H (.sh (.str s)) Q) (hs : Same S H) : Q (.str (toStr s)) H := m.sh hs (by simp only [Rep])
theorem same_upd {H : Hp} {p : Addr} {o : HO} (h : H p = none) : Same H (upd H p o) := fun b x e => by
  rw [upd_ne (ne_of_none e h)]
  exact e
/-- a new list of shared things -/
theorem Made.lst {ds : List D} {vs : List V} {p : Addr} (m : Made c S H (.lst (ds.map O.sh)) Q) (hs : Same S H) (r : Reps c S ds vs) (hp : H p = none) : Q (.ref p) (upd H p (.lst vs)) :=
  m (.ref p) S _ [p] ⟨same_upd hp, Same.refl _, fun _ _ _ => rfl⟩ (hs.trans (same_upd hp))
    (by simp only [Ro]; exact ⟨p, vs, [], rfl, rfl, upd_same, hs.free hp, Ros.of_reps r⟩) (by simp) (fun a h => by
      have e : a = p := by simpa using h
      rw [e]; exact hp)
/-- a new tuple -/
theorem Made.tup {ds : List D} {vs : List V} {p : Addr} (m : Made c S H (.sh (.tup ds)) Q) (hs : Same S H) (r : Reps c S ds vs) (hp : H p = none) : Q (.ref p) (upd H p (.tup vs)) := by
  have hS : S p = none := hs.free hp
  refine m (.ref p) (upd S p (.tup vs)) _ [] ⟨same_upd hp, same_upd hS, fun a o e => by rw [upd_ne (ne_of_none e hp)]⟩ (fun b x e => ?_) ?_ List.nodup_nil (fun a h => absurd h (by simp))
  · by_cases hb : b = p
    · subst hb
      rw [upd_same] at e ⊢
      exact e
    · rw [upd_ne hb] at e ⊢
      exact hs b x e
  · simp only [Ro, Rep]
    exact ⟨⟨p, vs, rfl, upd_same, Reps.mono (same_upd hS) ds vs r⟩, trivial⟩
end

/-! ### the functions -/
def mulOk (a b : Int) : Bool := (decide (a.natAbs < 2 ^ 64) || decide (b.natAbs < 2 ^ 64)) || decide (a.natAbs.log2 + b.natAbs.log2 < 1000000)
def lim : Nat := 16777216
def addF : D → D → Option O
  | .int a, .int b => some (.sh (.int (a + b)))
  | .str a, .str b => if a.length + b.length ≤ lim then some (.sh (.str (a ++ b))) else none
  | .lst a, .lst b => if a.length + b.length ≤ lim then some (.lst ((a ++ b).map .sh)) else none
  | .tup a, .tup b => if a.length + b.length ≤ lim then some (.sh (.tup (a ++ b))) else none
  | _, _ => none
def subF : D → D → Option O
  | .int a, .int b => some (.sh (.int (a - b)))
  | _, _ => none
def mulF : D → D → Option O
  | .int a, .int b => if mulOk a b then some (.sh (.int (a * b))) else none
  | .lst a, .int k => if decide (-(2 ^ 63) ≤ k) && decide (k < 2 ^ 63) && decide (a.length * k.toNat ≤ lim) then some (.lst (((List.replicate k.toNat a).flatten).map .sh)) else none
  | _, _ => none
def fdivF : D → D → Option O
  | .int a, .int b => if decide (b ≠ 0) && decide (b.natAbs.log2 < 9000) then some (.sh (.int (a.fdiv b))) else none
  | _, _ => none
def modF : D → D → Option O
  | .int a, .int b => if b ≠ 0 then some (.sh (.int (a.fmod b))) else none
  | _, _ => none
def powF : D → D → Option O
  | .int a, .int b => if decide (0 ≤ b) && decide (b ≤ 1000000) && decide (a.natAbs < 2 ^ 64) then some (.sh (.int (a ^ b.toNat))) else none
  | _, _ => none
def binF : Operator → D → D → Option O
  | .Add => addF
  | .Sub => subF
  | .Mult => mulF
  | .FloorDiv => fdivF
  | .Mod => modF
  | .Pow => powF
  | _ => fun _ _ => none

theorem toStr_append (a b : Sg) : toStr (a ++ b) = toStr a ++ toStr b := by
  show (⟨(a ++ b).toArray⟩ : Str) = ⟨a.toArray ++ b.toArray⟩
  simp
theorem toStr_length (a : Sg) : (toStr a).length = a.length := by
  show a.toArray.size = a.length
  simp
theorem lim_eq : lim = sizeLine := by rw [sizeLine_eq]; rfl
section
variable {c : Wd} {X : Cx}
theorem CMul_ok {a b : Int} (h : mulOk a b = true) : IntMulOk a b := by
  unfold mulOk at h
  simp only [Bool.or_eq_true, decide_eq_true_eq] at h
  rcases h with (h | h) | h
  · exact CMul.ok (.inl ⟨by omega, by omega⟩)
  · exact CMul.ok (.inr ⟨by omega, by omega⟩)
  · exact CMulW.ok h
theorem op_mulZ : OpR X (binaryOp .Mult) (rI (fun i j => mulOk i j = true) fun i j => .int (i * j)) := opI fun _ _ _ _ _ _ _ hc q => mul_int q (CMul_ok hc)
theorem op_fdivZ : OpR X (binaryOp .FloorDiv) (rI (fun _ j => j ≠ 0 ∧ j.natAbs.log2 < 9000) fun i j => .int (i.fdiv j)) := opI fun i j _ _ _ _ _ hc q => floordiv_int hc.1 q (.inl (PyProof.noPylong_of_log2 hc.2))
theorem op_addF : OpR X (binaryOp .Add) (rG c addF) := by
  refine OpR.cases fun x y H Q ⟨S, dx, dy, o, hs, rx, ry, e, m⟩ => ?_
  cases dx with
  | int a =>
    cases dy <;> simp only [addF, reduceCtorEq] at e
    cases e
    simp only [Rep] at rx ry
    exact ⟨_, op_add, _, _, rx, ry, m.int hs⟩
  | str a =>
    cases dy <;> simp only [addF, reduceCtorEq] at e
    split at e
    · cases e
      simp only [Rep] at rx ry
      refine ⟨_, op_add_str, _, _, rx, ry, by rw [toStr_length, toStr_length, ← lim_eq]; assumption, ?_⟩
      rw [← toStr_append]
      exact m.str hs
    · cases e
  | lst a =>
    cases dy <;> simp only [addF, reduceCtorEq] at e
    split at e
    · cases e
      simp only [Rep] at rx ry
      obtain ⟨p, vs, rfl, hp, rp⟩ := rx
      obtain ⟨q, ws, rfl, hq, rq⟩ := ry
      exact ⟨_, op_cat, _, _, _, _, rfl, rfl, hs _ _ hp, hs _ _ hq, by rw [rp.length, rq.length, ← lim_eq]; assumption, fun p hp => m.lst hs (rp.append rq) hp⟩
    · cases e
  | tup a =>
    cases dy <;> simp only [addF, reduceCtorEq] at e
    split at e
    · rename_i b hl
      cases e
      simp only [Rep] at rx ry
      obtain ⟨p, vs, rfl, hp, rp⟩ := rx
      obtain ⟨q, ws, rfl, hq, rq⟩ := ry
      refine ⟨_, op_catA, _, _, _, _, rfl, rfl, .of (hs _ _ hp), .of (hs _ _ hq), by rw [rp.length, rq.length, ← lim_eq]; assumption, fun h0 => ?_, fun h0 h1 => ?_, fun _ _ p hp => m.tup hs (rp.append rq) hp⟩
      · subst h0
        have e : a = [] := List.length_eq_zero_iff.mp (rp.length.symm)
        subst e
        refine m.sh hs ?_
        simp only [Rep]
        exact ⟨q, ws, rfl, hq, rq⟩
      · subst h1
        have e : b = [] := List.length_eq_zero_iff.mp (rq.length.symm)
        subst e
        refine m.sh hs ?_
        simp only [Rep, List.append_nil]
        exact ⟨p, vs, rfl, hp, rp⟩
    · cases e
  | _ => simp only [addF, reduceCtorEq] at e
theorem op_subF : OpR X (binaryOp .Sub) (rG c subF) := by
  refine OpR.cases fun x y H Q ⟨S, dx, dy, o, hs, rx, ry, e, m⟩ => ?_
  cases dx <;> cases dy <;> simp only [subF, reduceCtorEq] at e
  cases e
  simp only [Rep] at rx ry
  exact ⟨_, op_sub, _, _, rx, ry, m.int hs⟩
theorem Reps.replicate {S : Hp} {ds : List D} {vs : List V} (r : Reps c S ds vs) : ∀ n, Reps c S (List.replicate n ds).flatten (List.replicate n vs).flatten
  | 0 => by simp [Reps]
  | n + 1 => by
    rw [List.replicate_succ, List.replicate_succ, List.flatten_cons, List.flatten_cons]
    exact r.append (Reps.replicate r n)
theorem op_mulF : OpR X (binaryOp .Mult) (rG c mulF) := by
  refine OpR.cases fun x y H Q ⟨S, dx, dy, o, hs, rx, ry, e, m⟩ => ?_
  cases dx with
  | int a =>
    cases dy <;> simp only [mulF, reduceCtorEq] at e
    split at e
    · rename_i h
      cases e
      simp only [Rep] at rx ry
      exact ⟨_, op_mulZ, _, _, rx, ry, h, m.int hs⟩
    · cases e
  | lst a =>
    cases dy <;> simp only [mulF, reduceCtorEq] at e
    split at e
    · rename_i h
      cases e
      simp only [Bool.and_eq_true, decide_eq_true_eq] at h
      simp only [Rep] at rx ry
      obtain ⟨p, vs, rfl, hp, rp⟩ := rx
      exact ⟨_, op_rep, _, _, _, rfl, ry, hs _ _ hp, h.1.1, h.1.2, by rw [rp.length, ← lim_eq]; exact h.2, fun p hp => m.lst hs (Reps.replicate rp _) hp⟩
    · cases e
  | _ => simp only [mulF, reduceCtorEq] at e
theorem op_fdivF : OpR X (binaryOp .FloorDiv) (rG c fdivF) := by
  refine OpR.cases fun x y H Q ⟨S, dx, dy, o, hs, rx, ry, e, m⟩ => ?_
  cases dx <;> cases dy <;> simp only [fdivF, reduceCtorEq] at e
  split at e
  · rename_i h
    cases e
    simp only [Bool.and_eq_true, decide_eq_true_eq] at h
    simp only [Rep] at rx ry
    exact ⟨_, op_fdivZ, _, _, rx, ry, h, m.int hs⟩
  · cases e
theorem op_modF : OpR X (binaryOp .Mod) (rG c modF) := by
  refine OpR.cases fun x y H Q ⟨S, dx, dy, o, hs, rx, ry, e, m⟩ => ?_
  cases dx <;> cases dy <;> simp only [modF, reduceCtorEq] at e
  split at e
  · rename_i h
    cases e
    simp only [Rep] at rx ry
    exact ⟨_, op_modN, _, _, rx, ry, h, m.int hs⟩
  · cases e
theorem op_powF : OpR X (binaryOp .Pow) (rG c powF) := by
  refine OpR.cases fun x y H Q ⟨S, dx, dy, o, hs, rx, ry, e, m⟩ => ?_
  cases dx <;> cases dy <;> simp only [powF, reduceCtorEq] at e
  split at e
  · rename_i h
    cases e
    simp only [Bool.and_eq_true, decide_eq_true_eq] at h
    simp only [Rep] at rx ry
    exact ⟨_, op_pow, _, _, rx, ry, ⟨h.1.1, h.1.2, h.2⟩, m.int hs⟩
  · cases e
theorem op_no {op : Operator} : OpR X (binaryOp op) (rG c fun _ _ => none) := OpR.cases fun x y H Q ⟨S, dx, dy, o, hs, rx, ry, e, m⟩ => nomatch e
theorem op_binF : ∀ op : Operator, OpR X (binaryOp op) (rG c (binF op))
  | .Add => op_addF
  | .Sub => op_subF
  | .Mult => op_mulF
  | .FloorDiv => op_fdivF
  | .Mod => op_modF
  | .Pow => op_powF
  | .MatMult => op_no
  | .Div => op_no
  | .LShift => op_no
  | .RShift => op_no
  | .BitOr => op_no
  | .BitXor => op_no
  | .BitAnd => op_no
end
end Mp
end
section
/-! Mp4: comparisons by values. -/
namespace Mp
open PySem L2 PyProof.Rows

/-! ### deep data as the library's -/
mutual
def D.py : D → PyData
  | .non => .none
  | .bl b => .bool b
  | .int i => .int i
  | .str s => .str (toStr s)
  | .tup xs => .tuple (D.pys xs)
  | .lst xs => .list (D.pys xs)
  | .dK _ _ => .none
  | .dT _ _ => .none
  | .ins _ _ => .none
  | .fn _ => .none
  | .rng _ _ => .none
  | .scr _ => .none
def D.pys : List D → List PyData
  | [] => []
  | x :: xs => x.py :: D.pys xs
end
mutual
/-- plain data nested at most n deep -/
def okD : D → Nat → Bool
  | .non, _ => true
  | .bl _, _ => true
  | .int _, _ => true
  | .str s, _ => s.all fun c => decide (c < 1114112)
  | .tup xs, n => match n with
    | 0 => false
    | n + 1 => okDs xs n
  | .lst xs, n => match n with
    | 0 => false
    | n + 1 => okDs xs n
  | .dK _ _, _ => false
  | .dT _ _, _ => false
  | .ins _ _, _ => false
  | .fn _, _ => false
  | .rng _ _, _ => false
  | .scr _, _ => false
def okDs : List D → Nat → Bool
  | [], _ => true
  | x :: xs, n => okD x n && okDs xs n
end
mutual
/-- Python's == of plain data -/
def deq : D → D → Bool
  | .non, y => match y with
    | .non => true
    | _ => false
  | .bl a, y => match y with
    | .bl b => a == b
    | .int j => (if a then 1 else 0) == j
    | _ => false
  | .int i, y => match y with
    | .bl b => i == (if b then 1 else 0)
    | .int j => i == j
    | _ => false
  | .str s, y => match y with
    | .str t => decide (s = t)
    | _ => false
  | .tup xs, y => match y with
    | .tup ys => deqs xs ys
    | _ => false
  | .lst xs, y => match y with
    | .lst ys => deqs xs ys
    | _ => false
  | .dK _ _, _ => false
  | .dT _ _, _ => false
  | .ins _ _, _ => false
  | .fn _, _ => false
  | .rng _ _, _ => false
  | .scr _, _ => false
def deqs : List D → List D → Bool
  | [], ys => match ys with
    | [] => true
    | _ :: _ => false
  | x :: xs, ys => match ys with
    | [] => false
    | y :: ys => deq x y && deqs xs ys
end
theorem toStr_beq (s t : Sg) : (toStr s == toStr t) = decide (s = t) := by
  by_cases h : s = t
  · subst h
    simp
  · have h2 : ¬ toStr s = toStr t := fun e => h (toStr_inj e)
    simp [h, h2]
mutual
theorem deq_py : ∀ (a b : D) (n m : Nat), okD a n = true → okD b m = true → PyData.eqv a.py b.py = deq a b
  | .non, b, n, m, h, k => by cases b <;> first | (simp only [okD, Bool.false_eq_true] at k; done) | simp only [D.py, PyData.eqv, deq]
  | .bl x, b, n, m, h, k => by cases b <;> first | (simp only [okD, Bool.false_eq_true] at k; done) | simp only [D.py, PyData.eqv, deq]
  | .int i, b, n, m, h, k => by cases b <;> first | (simp only [okD, Bool.false_eq_true] at k; done) | simp only [D.py, PyData.eqv, deq]
  | .str s, b, n, m, h, k => by cases b <;> first | (simp only [okD, Bool.false_eq_true] at k; done) | simp only [D.py, PyData.eqv, deq, toStr_beq]
  | .tup xs, b, n, m, h, k => by
    cases b with
    | tup ys =>
      cases n with
      | zero => simp only [okD, Bool.false_eq_true] at h
      | succ n =>
        cases m with
        | zero => simp only [okD, Bool.false_eq_true] at k
        | succ m =>
          simp only [okD] at h k
          simp only [D.py, PyData.eqv, deq]
          exact deqs_py xs ys n m h k
    | _ => first | (simp only [okD, Bool.false_eq_true] at k; done) | simp only [D.py, PyData.eqv, deq]
  | .lst xs, b, n, m, h, k => by
    cases b with
    | lst ys =>
      cases n with
      | zero => simp only [okD, Bool.false_eq_true] at h
      | succ n =>
        cases m with
        | zero => simp only [okD, Bool.false_eq_true] at k
        | succ m =>
          simp only [okD] at h k
          simp only [D.py, PyData.eqv, deq]
          exact deqs_py xs ys n m h k
    | _ => first | (simp only [okD, Bool.false_eq_true] at k; done) | simp only [D.py, PyData.eqv, deq]
  | .dK _ _, b, n, m, h, k => by simp only [okD, Bool.false_eq_true] at h
  | .dT _ _, b, n, m, h, k => by simp only [okD, Bool.false_eq_true] at h
  | .ins _ _, b, n, m, h, k => by simp only [okD, Bool.false_eq_true] at h
  | .fn _, b, n, m, h, k => by simp only [okD, Bool.false_eq_true] at h
  | .rng _ _, b, n, m, h, k => by simp only [okD, Bool.false_eq_true] at h
  | .scr _, b, n, m, h, k => by simp only [okD, Bool.false_eq_true] at h
theorem deqs_py : ∀ (xs ys : List D) (n m : Nat), okDs xs n = true → okDs ys m = true → PyData.eqvAll (D.pys xs) (D.pys ys) = deqs xs ys
  | [], ys, n, m, h, k => by cases ys <;> simp only [D.pys, PyData.eqvAll, deqs]
  | x :: xs, ys, n, m, h, k => by
    cases ys with
    | nil => simp only [D.pys, PyData.eqvAll, deqs]
    | cons y ys =>
      simp only [okDs, Bool.and_eq_true] at h k
      simp only [D.pys, PyData.eqvAll, deqs]
      rw [deq_py x y n m h.1 k.1, deqs_py xs ys n m h.2 k.2]
end
theorem strOk_to (s : Sg) (h : (s.all fun c => decide (c < 1114112)) = true) : PyData.strOk (toStr s) = true := by
  unfold PyData.strOk toStr
  simpa using h
mutual
theorem okD_lay : ∀ (d : D) (n : Nat), okD d n = true → d.py.canLay0 = true ∧ d.py.depth ≤ n
  | .non, n, h => by simp [D.py, PyData.canLay0, PyData.depth]
  | .bl x, n, h => by simp [D.py, PyData.canLay0, PyData.depth]
  | .int i, n, h => by simp [D.py, PyData.canLay0, PyData.depth]
  | .str s, n, h => by
    simp only [okD] at h
    simp only [D.py, PyData.canLay0, PyData.depth]
    exact ⟨strOk_to s h, Nat.zero_le _⟩
  | .tup xs, n, h => by
    cases n with
    | zero => simp only [okD, Bool.false_eq_true] at h
    | succ n =>
      simp only [okD] at h
      obtain ⟨h1, h2⟩ := okDs_lay xs n h
      simp only [D.py, PyData.canLay0, PyData.depth]
      exact ⟨h1, Nat.succ_le_succ h2⟩
  | .lst xs, n, h => by
    cases n with
    | zero => simp only [okD, Bool.false_eq_true] at h
    | succ n =>
      simp only [okD] at h
      obtain ⟨h1, h2⟩ := okDs_lay xs n h
      simp only [D.py, PyData.canLay0, PyData.depth]
      exact ⟨h1, Nat.succ_le_succ h2⟩
  | .dK _ _, n, h => by simp only [okD, Bool.false_eq_true] at h
  | .dT _ _, n, h => by simp only [okD, Bool.false_eq_true] at h
  | .ins _ _, n, h => by simp only [okD, Bool.false_eq_true] at h
  | .fn _, n, h => by simp only [okD, Bool.false_eq_true] at h
  | .rng _ _, n, h => by simp only [okD, Bool.false_eq_true] at h
  | .scr _, n, h => by simp only [okD, Bool.false_eq_true] at h
theorem okDs_lay : ∀ (ds : List D) (n : Nat), okDs ds n = true → PyData.canLayAll0 (D.pys ds) = true ∧ PyData.depthAll (D.pys ds) ≤ n
  | [], n, h => by simp [D.pys, PyData.canLayAll0, PyData.depthAll]
  | x :: xs, n, h => by
    simp only [okDs, Bool.and_eq_true] at h
    obtain ⟨a1, a2⟩ := okD_lay x n h.1
    obtain ⟨b1, b2⟩ := okDs_lay xs n h.2
    simp only [D.pys, PyData.canLayAll0, PyData.depthAll, Bool.and_eq_true]
    exact ⟨⟨a1, b1⟩, Nat.max_le.mpr ⟨a2, b2⟩⟩
end
theorem okD_shaped {d : D} (h : okD d 64 = true) : SeqAt.shaped d.py = true := by
  obtain ⟨a, b⟩ := okD_lay d 64 h
  unfold SeqAt.shaped
  rw [a, decide_eq_true b]
  rfl
section
variable {c : Wd} {S H : Hp}
mutual
theorem Rep.dp (hs : Same S H) : ∀ (d : D) (v : V) (n : Nat), okD d n = true → Rep c S d v → Dp c.K H v d.py
  | .non, v, n, h, r => by simp only [Rep] at r; subst r; exact .non
  | .bl x, v, n, h, r => by simp only [Rep] at r; subst r; exact .bl x
  | .int i, v, n, h, r => by simp only [Rep] at r; subst r; exact .int i
  | .str s, v, n, h, r => by simp only [Rep] at r; subst r; exact .str _
  | .tup xs, v, n, h, r => by
    cases n with
    | zero => simp only [okD, Bool.false_eq_true] at h
    | succ n =>
      simp only [okD] at h
      simp only [Rep] at r
      obtain ⟨a, vs, rfl, q, z⟩ := r
      simp only [D.py]
      exact .tup (.of (hs _ _ q)) (Reps.dp hs xs vs n h z)
  | .lst xs, v, n, h, r => by
    cases n with
    | zero => simp only [okD, Bool.false_eq_true] at h
    | succ n =>
      simp only [okD] at h
      simp only [Rep] at r
      obtain ⟨a, vs, rfl, q, z⟩ := r
      simp only [D.py]
      exact .lst (.of (hs _ _ q)) (Reps.dp hs xs vs n h z)
  | .dK _ _, v, n, h, r => by simp only [okD, Bool.false_eq_true] at h
  | .dT _ _, v, n, h, r => by simp only [okD, Bool.false_eq_true] at h
  | .ins _ _, v, n, h, r => by simp only [okD, Bool.false_eq_true] at h
  | .fn _, v, n, h, r => by simp only [okD, Bool.false_eq_true] at h
  | .rng _ _, v, n, h, r => by simp only [okD, Bool.false_eq_true] at h
  | .scr _, v, n, h, r => by simp only [okD, Bool.false_eq_true] at h
theorem Reps.dp (hs : Same S H) : ∀ (ds : List D) (vs : List V) (n : Nat), okDs ds n = true → Reps c S ds vs → DpAll c.K H vs (D.pys ds)
  | [], vs, n, h, r => by simp only [Reps] at r; subst r; simp only [D.pys]; exact .nil
  | x :: xs, vs, n, h, r => by
    simp only [okDs, Bool.and_eq_true] at h
    simp only [Reps] at r
    obtain ⟨v, l, rfl, p, z⟩ := r
    simp only [D.pys]
    exact .cons (Rep.dp hs x v n h.1 p) (Reps.dp hs xs l n h.2 z)
end
end

/-! ### comparisons -/
def eqF (a b : D) : Option Bool := if okD a 64 && okD b 64 then some (deq a b) else match a, b with
  | .lst xs, .lst ys => if xs.length = ys.length then none else some false
  | _, _ => none
/-- texts by their code points -/
def ltS (a b : Sg) : Bool := decide ((toStr a).cps.toList < (toStr b).cps.toList)
def ltF : D → D → Option Bool
  | .int a, .int b => some (decide (a < b))
  | .str a, .str b => some (ltS a b)
  | _, _ => none
def leF : D → D → Option Bool
  | .int a, .int b => some (decide (a ≤ b))
  | .str a, .str b => some (!ltS b a)
  | _, _ => none
def isF : D → D → Option Bool
  | .non, .non => some true
  | .bl _, .non => some false
  | .int _, .non => some false
  | .str _, .non => some false
  | .tup _, .non => some false
  | .lst _, .non => some false
  | .dK _ _, .non => some false
  | .dT _ _, .non => some false
  | .ins _ _, .non => some false
  | .fn _, .non => some false
  | .rng _ _, .non => some false
  | .bl a, .bl b => some (a == b)
  | _, _ => none
def keyD : D → Option Kb
  | .int i => some (.i i)
  | .str s => some (.s s)
  | _ => none
def keysD : List D → Option (List Kb)
  | [] => some []
  | d :: ds => match keyD d, keysD ds with
    | some k, some ks => some (k :: ks)
    | _, _ => none
def inF : D → D → Option Bool
  | a, .lst ys => if okD a 64 && okD (.lst ys) 64 then some (ys.any fun y => deq y a) else none
  | a, .tup ys => if okD a 64 && okD (.tup ys) 64 then some (ys.any fun y => deq y a) else none
  | .str [x], .str t => some (decide (x ∈ t))
  | .int i, .rng lo hi => some (decide (lo ≤ i) && decide (i < hi))
  | a, .dK ks _ => match keyD a with
    | some k => some (decide (k ∈ ks))
    | none => none
  | .tup xs, .dT ks _ => match keysD xs with
    | some k => some (decide (k ∈ ks))
    | none => none
  | _, _ => none
def notB : Option Bool → Option Bool
  | some b => some (!b)
  | none => none
def cmpF : CmpOp → D → D → Option Bool
  | .Eq => eqF
  | .NotEq => fun a b => notB (eqF a b)
  | .Lt => ltF
  | .LtE => leF
  | .Gt => fun a b => ltF b a
  | .GtE => fun a b => leF b a
  | .Is => isF
  | .IsNot => fun a b => notB (isF a b)
  | .In => inF
  | .NotIn => fun a b => notB (inF a b)
section
variable (c : Wd)
/-- a comparison by deep data -/
def rC (g : D → D → Option Bool) : R2 := fun x y H Q => ∃ S dx dy b, Same S H ∧ Rep c S dx x ∧ Rep c S dy y ∧ g dx dy = some b ∧ Q (.bl b) H
end
section
variable {c : Wd} {X : Cx}
theorem op_eqLen (hu : X.A.units < cLine) : OpR X (compareOp .Eq) (fun x y H Q => ∃ a b xs ys, x = .ref a ∧ y = .ref b ∧ SqL X.K H a xs ∧ SqL X.K H b ys ∧ xs.length ≠ ys.length ∧ Q (.bl false) H) := by
  intro pins s σ H x y v u Q I rx ry ⟨a, b, xs, ys, e1, e2, ha, hb, hl, q⟩
  subst e1 e2
  cases rx
  cases ry
  obtain ⟨us, r, p, _⟩ := I.list ha
  obtain ⟨ws, r2, p2, _⟩ := I.list hb
  have l1 := r.length
  have l2 := r2.length
  exact SeqAt.RcAt.lists_lengths p.isList p2.isList (by simp; omega) hu X.prog X.w X.xe _ ⟨.bl false, H, I, rfl, q⟩
theorem op_neLen (hu : X.A.units < cLine) : OpR X (compareOp .NotEq) (fun x y H Q => ∃ a b xs ys, x = .ref a ∧ y = .ref b ∧ SqL X.K H a xs ∧ SqL X.K H b ys ∧ xs.length ≠ ys.length ∧ Q (.bl true) H) := by
  intro pins s σ H x y v u Q I rx ry ⟨a, b, xs, ys, e1, e2, ha, hb, hl, q⟩
  subst e1 e2
  cases rx
  cases ry
  obtain ⟨us, r, p, _⟩ := I.list ha
  obtain ⟨ws, r2, p2, _⟩ := I.list hb
  have l1 := r.length
  have l2 := r2.length
  exact SeqAt.RcNeAt.lists_lengths p.isList p2.isList (by simp; omega) hu X.prog X.w X.xe _ ⟨.bl true, H, I, rfl, q⟩
theorem eqF_cases {a b : D} {k : Bool} (e : eqF a b = some k) : (okD a 64 = true ∧ okD b 64 = true ∧ k = deq a b) ∨ ∃ xs ys, a = .lst xs ∧ b = .lst ys ∧ xs.length ≠ ys.length ∧ k = false := by
  unfold eqF at e
  split at e
  · rename_i h
    simp only [Bool.and_eq_true] at h
    exact .inl ⟨h.1, h.2, (Option.some.inj e).symm⟩
  · split at e
    · split at e
      · cases e
      · exact .inr ⟨_, _, rfl, rfl, by assumption, (Option.some.inj e).symm⟩
    · cases e
theorem op_eqF (hk : X.K = c.K) (hu : X.A.units + 65 < cLine) : OpR X (compareOp .Eq) (rC c eqF) := by
  refine OpR.cases fun x y H Q ⟨S, dx, dy, b, hs, rx, ry, e, q⟩ => ?_
  rcases eqF_cases e with ⟨h1, h2, rfl⟩ | ⟨xs, ys, rfl, rfl, hl, rfl⟩
  · refine ⟨_, op_eqD (by omega), _, _, by rw [hk]; exact Rep.dp hs dx x 64 h1 rx, by rw [hk]; exact Rep.dp hs dy y 64 h2 ry, okD_shaped h1, okD_shaped h2, ?_⟩
    rw [deq_py dx dy 64 64 h1 h2]
    exact q
  · simp only [Rep] at rx ry
    obtain ⟨a, vs, rfl, ha, z⟩ := rx
    obtain ⟨b, ws, rfl, hb, z2⟩ := ry
    exact ⟨_, op_eqLen (by omega), a, b, vs, ws, rfl, rfl, .of (hs _ _ ha), .of (hs _ _ hb), by rw [z.length, z2.length]; exact hl, q⟩
theorem op_neF (hk : X.K = c.K) (hu : X.A.units + 65 < cLine) : OpR X (compareOp .NotEq) (rC c fun a b => notB (eqF a b)) := by
  refine OpR.cases fun x y H Q ⟨S, dx, dy, b, hs, rx, ry, e, q⟩ => ?_
  obtain ⟨k, ek, rfl⟩ : ∃ k, eqF dx dy = some k ∧ b = !k := by
    have e : notB (eqF dx dy) = some b := e
    cases h : eqF dx dy with
    | none => rw [h] at e; cases e
    | some k =>
      rw [h] at e
      exact ⟨k, rfl, (Option.some.inj e).symm⟩
  rcases eqF_cases ek with ⟨h1, h2, rfl⟩ | ⟨xs, ys, rfl, rfl, hl, rfl⟩
  · refine ⟨_, op_neD (by omega), _, _, by rw [hk]; exact Rep.dp hs dx x 64 h1 rx, by rw [hk]; exact Rep.dp hs dy y 64 h2 ry, okD_shaped h1, okD_shaped h2, ?_⟩
    rw [deq_py dx dy 64 64 h1 h2]
    exact q
  · simp only [Rep] at rx ry
    obtain ⟨a, vs, rfl, ha, z⟩ := rx
    obtain ⟨b, ws, rfl, hb, z2⟩ := ry
    exact ⟨_, op_neLen (by omega), a, b, vs, ws, rfl, rfl, .of (hs _ _ ha), .of (hs _ _ hb), by rw [z.length, z2.length]; exact hl, q⟩
theorem op_ltF : OpR X (compareOp .Lt) (rC c ltF) := by
  refine OpR.cases fun x y H Q ⟨S, dx, dy, b, hs, rx, ry, e, q⟩ => ?_
  cases dx <;> cases dy <;> simp only [ltF, reduceCtorEq] at e
  · cases e
    simp only [Rep] at rx ry
    exact ⟨_, op_lt, _, _, rx, ry, q⟩
  · cases e
    simp only [Rep] at rx ry
    exact ⟨_, op_lt_str, _, _, rx, ry, q⟩
theorem op_leF : OpR X (compareOp .LtE) (rC c leF) := by
  refine OpR.cases fun x y H Q ⟨S, dx, dy, b, hs, rx, ry, e, q⟩ => ?_
  cases dx <;> cases dy <;> simp only [leF, reduceCtorEq] at e
  · cases e
    simp only [Rep] at rx ry
    exact ⟨_, op_le, _, _, rx, ry, q⟩
  · cases e
    simp only [Rep] at rx ry
    exact ⟨_, op_le_str, _, _, rx, ry, q⟩
theorem op_gtF : OpR X (compareOp .Gt) (rC c fun a b => ltF b a) := by
  refine OpR.cases fun x y H Q ⟨S, dx, dy, b, hs, rx, ry, e, q⟩ => ?_
  cases dx <;> cases dy <;> simp only [ltF, reduceCtorEq] at e
  · cases e
    simp only [Rep] at rx ry
    exact ⟨_, op_gt, _, _, rx, ry, q⟩
  · cases e
    simp only [Rep] at rx ry
    exact ⟨_, op_gt_str, _, _, rx, ry, q⟩
theorem op_geF : OpR X (compareOp .GtE) (rC c fun a b => leF b a) := by
  refine OpR.cases fun x y H Q ⟨S, dx, dy, b, hs, rx, ry, e, q⟩ => ?_
  cases dx <;> cases dy <;> simp only [leF, reduceCtorEq] at e
  · cases e
    simp only [Rep] at rx ry
    exact ⟨_, op_ge, _, _, rx, ry, q⟩
  · cases e
    simp only [Rep] at rx ry
    exact ⟨_, op_ge_str, _, _, rx, ry, q⟩
theorem isF_non {S : Hp} {d : D} {v : V} {b : Bool} (r : Rep c S d v) (e : isF d .non = some b) : decide (v = V.non) = b := by
  cases d <;> simp only [isF, reduceCtorEq, Option.some.injEq] at e <;> subst e <;> simp only [Rep] at r
  · subst r; rfl
  · subst r; rfl
  · subst r; rfl
  · subst r; rfl
  · obtain ⟨a, vs, rfl, _⟩ := r; rfl
  · obtain ⟨a, vs, rfl, _⟩ := r; rfl
  · obtain ⟨a, vs, rfl, _⟩ := r; rfl
  · obtain ⟨a, vs, rfl, _⟩ := r; rfl
  · obtain ⟨a, dx, vs, rfl, _⟩ := r; rfl
  · subst r; rfl
  · obtain ⟨a, rfl, _⟩ := r; rfl
theorem op_isF : OpR X (compareOp .Is) (rC c isF) := by
  refine OpR.cases fun x y H Q ⟨S, dx, dy, b, hs, rx, ry, e, q⟩ => ?_
  cases dy with
  | non =>
    have h := isF_non rx e
    simp only [Rep] at ry
    exact ⟨_, op_isN, ry, by rw [h]; exact q⟩
  | bl k =>
    cases dx <;> simp only [isF, reduceCtorEq] at e
    cases e
    simp only [Rep] at rx ry
    exact ⟨_, op_isBl, _, _, rx, ry, by rw [← Bool.beq_eq_decide_eq]; exact q⟩
  | _ => cases dx <;> simp only [isF, reduceCtorEq] at e
theorem op_isnotF : OpR X (compareOp .IsNot) (rC c fun a b => notB (isF a b)) := by
  refine OpR.cases fun x y H Q ⟨S, dx, dy, b, hs, rx, ry, e, q⟩ => ?_
  obtain ⟨b', e', rfl⟩ : ∃ b', isF dx dy = some b' ∧ b = !b' := by
    have e : notB (isF dx dy) = some b := e
    cases h : isF dx dy with
    | none => rw [h] at e; cases e
    | some b' =>
      rw [h] at e
      exact ⟨b', rfl, (Option.some.inj e).symm⟩
  cases dy with
  | non =>
    have h := isF_non rx e'
    simp only [Rep] at ry
    exact ⟨_, op_notN, ry, by rw [h]; exact q⟩
  | bl k =>
    cases dx <;> simp only [isF, reduceCtorEq] at e'
    cases e'
    simp only [Rep] at rx ry
    exact ⟨_, op_notBl, _, _, rx, ry, by rw [← Bool.beq_eq_decide_eq]; exact q⟩
  | _ => cases dx <;> simp only [isF, reduceCtorEq] at e'
end
end Mp
end
section
/-! Mp5: in, dicts by keys. -/
namespace Mp
open PySem L2 PyProof.Rows
section
variable {α : Type} {κ : Type} [DecidableEq κ]
/-- the value at a key -/
def dget : List κ → List α → κ → Option α
  | k :: ks, v :: vs, x => if k = x then some v else dget ks vs x
  | _, _, _ => none
end
theorem valV_zip {κ κ' : Type} [DecidableEq κ] [DecidableEq κ'] (f : κ → κ') (hf : ∀ a b, f a = f b → a = b) (x : κ) : ∀ (ks : List κ) (vs : List V), valV ((ks.map f).zip vs) (f x) = dget ks vs x
  | [], vs => by simp [valV, dget]
  | k :: ks, [] => by simp [valV, dget]
  | k :: ks, v :: vs => by
    rw [List.map_cons, List.zip_cons_cons]
    unfold dget
    by_cases e : k = x
    · subst e
      rw [valV_pos (p := (f k, v)) rfl, if_pos rfl]
    · rw [valV_neg (p := (f k, v)) (fun z => e (hf _ _ z)), if_neg e]
      exact valV_zip f hf x ks vs
theorem dget_isSome {κ : Type} [DecidableEq κ] {α : Type} (x : κ) : ∀ (ks : List κ) (vs : List α), ks.length = vs.length → (dget ks vs x).isSome = decide (x ∈ ks)
  | [], vs, h => by simp [dget]
  | k :: ks, [], h => by simp at h
  | k :: ks, v :: vs, h => by
    unfold dget
    by_cases e : k = x
    · subst e
      simp
    · rw [if_neg e, dget_isSome x ks vs (by simpa using h)]
      have e' : ¬ x = k := fun z => e z.symm
      simp [e']
theorem keys_inj : ∀ {a b : List Kb}, a.map Kb.key = b.map Kb.key → a = b
  | [], [], _ => rfl
  | [], _ :: _, h => by simp at h
  | _ :: _, [], h => by simp at h
  | x :: xs, y :: ys, h => by
    simp only [List.map_cons, List.cons.injEq] at h
    rw [Kb.key_inj h.1, keys_inj h.2]
section
variable {c : Wd} {S H : Hp} {X : Cx}
theorem keyD_rep {d : D} {v : V} {k : Kb} (h : keyD d = some k) (r : Rep c S d v) : v = kV k.key := by
  cases d <;> simp only [keyD, reduceCtorEq, Option.some.injEq] at h <;> subst h <;> simp only [Rep] at r <;> exact r
theorem keysD_rep : ∀ {ds : List D} {vs : List V} {ks : List Kb}, keysD ds = some ks → Reps c S ds vs → vs = (ks.map Kb.key).map kV
  | [], vs, ks, h, r => by
    simp only [keysD, Option.some.injEq] at h
    simp only [Reps] at r
    subst h
    exact r
  | d :: ds, vs, ks, h, r => by
    simp only [keysD] at h
    simp only [Reps] at r
    obtain ⟨v, l, rfl, p, z⟩ := r
    cases hk : keyD d with
    | none => rw [hk] at h; cases h
    | some k =>
      cases hks : keysD ds with
      | none => rw [hk, hks] at h; cases h
      | some ks' =>
        rw [hk, hks] at h
        cases h
        rw [keyD_rep hk p, keysD_rep hks z]
        rfl
/-- a dict's look-up -/
def getF : D → D → Option (Option D)
  | .dK ks vs, a => match keyD a with
    | some k => some (dget ks vs k)
    | none => none
  | .dT ks vs, .tup xs => match keysD xs with
    | some k => some (dget ks vs k)
    | none => none
  | _, _ => none
def OptR (c : Wd) (S : Hp) (r : Option D) (o : Option V) : Prop := match r with
  | some d => ∃ v, o = some v ∧ Rep c S d v
  | none => o = none
theorem dget_rep {κ : Type} [DecidableEq κ] (x : κ) : ∀ (ks : List κ) (ds : List D) (vs : List V), Reps c S ds vs → ∀ r, dget ks ds x = r → OptR c S r (dget ks vs x)
  | [], ds, vs, h, r, e => by
    simp only [dget] at e
    subst e
    simp only [dget, OptR]
  | k :: ks, [], vs, h, r, e => by
    simp only [dget] at e
    subst e
    simp only [Reps] at h
    subst h
    simp only [dget, OptR]
  | k :: ks, d :: ds, vs, h, r, e => by
    simp only [Reps] at h
    obtain ⟨v, l, rfl, p, z⟩ := h
    unfold dget at e
    by_cases q : k = x
    · rw [if_pos q] at e
      subst e
      exact ⟨v, by unfold dget; rw [if_pos q], p⟩
    · rw [if_neg q] at e
      have := dget_rep x ks ds l z r e
      cases r with
      | none =>
        show dget (k :: ks) (v :: l) x = none
        unfold dget
        rw [if_neg q]
        exact this
      | some d' =>
        obtain ⟨v', h1, h2⟩ := this
        exact ⟨v', by unfold dget; rw [if_neg q]; exact h1, h2⟩
/-- what a look-up finds -/
theorem getF_get (hs : Same S H) {a b : D} {x y : V} {r : Option D} (h : getF a b = some r) (ra : Rep c S a x) (rb : Rep c S b y) :
    ∃ p o, x = .ref p ∧ DGet H p y o ∧ OptR c S r o := by
  cases a <;> simp only [getF, reduceCtorEq] at h
  · rename_i ks ds
    cases hk : keyD b with
    | none => rw [hk] at h; cases h
    | some k =>
      rw [hk] at h
      simp only [Option.some.injEq] at h
      simp only [Rep] at ra
      obtain ⟨p, vs, rfl, hp, hl, rv⟩ := ra
      have e := keyD_rep hk rb
      refine ⟨p, dget ks vs k, rfl, .inl ⟨_, k.key, .inl (hs _ _ hp), e, (valV_zip Kb.key (fun _ _ => Kb.key_inj) k ks vs).symm⟩, ?_⟩
      exact dget_rep k ks ds vs rv r h
  · rename_i ks ds
    cases b <;> simp only [reduceCtorEq] at h
    rename_i xs
    cases hk : keysD xs with
    | none => rw [hk] at h; cases h
    | some k =>
      rw [hk] at h
      simp only [Option.some.injEq] at h
      simp only [Rep] at ra rb
      obtain ⟨p, vs, rfl, hp, hl, rv⟩ := ra
      obtain ⟨q, ws, rfl, hq, rw'⟩ := rb
      have e := keysD_rep hk rw'
      refine ⟨p, dget ks vs k, rfl, .inr ⟨_, k.map Kb.key, q, .inl (hs _ _ hp), rfl, by rw [← e]; exact hs _ _ hq, (valV_zip (fun k : List Kb => k.map Kb.key) (fun _ _ => keys_inj) k ks vs).symm⟩, ?_⟩
      exact dget_rep k ks ds vs rv r h
end
section
variable {c : Wd} {X : Cx}
theorem op_dIn (hu : X.A.units + 1 < cLine) : OpR X (compareOp .In) (fun x y H Q => ∃ a o, y = .ref a ∧ DGet H a x o ∧ Q (.bl o.isSome) H) := by
  intro pins s σ H x y v u Q I rx ry h
  obtain ⟨a, o, rfl, g, q⟩ := h
  cases ry
  exact d_in hu I g rx fun s' I' => ⟨.bl _, H, I', rfl, q⟩
theorem op_dNotIn (hu : X.A.units + 1 < cLine) : OpR X (compareOp .NotIn) (fun x y H Q => ∃ a o, y = .ref a ∧ DGet H a x o ∧ Q (.bl (!o.isSome)) H) := by
  intro pins s σ H x y v u Q I rx ry h
  obtain ⟨a, o, rfl, g, q⟩ := h
  cases ry
  exact d_notIn hu I g rx fun s' I' => ⟨.bl _, H, I', rfl, q⟩
theorem op_inT (hu : X.A.units + 65 < cLine) : OpR X (compareOp .In) (fun x y H Q => ∃ d ds, Dp X.K H x d ∧ Dp X.K H y (.tuple ds) ∧ SeqAt.shaped d = true ∧ SeqAt.shaped (.tuple ds) = true ∧ Q (.bl (ds.any fun z => PyData.eqv z d)) H) := by
  intro pins s σ H x y v u Q I rx ry h
  obtain ⟨d, ds, hd, he, sd, se, q⟩ := h
  obtain ⟨as, r1⟩ := Dp.reads I d x v hd rx
  obtain ⟨bs, r2⟩ := Dp.reads I (.tuple ds) y u he ry
  exact SeqAt.in_tuple_reads r2 r1 (SeqAt.canLay_of_shaped se) (SeqAt.canLay_of_shaped sd) (room_in_shaped sd hu) ⟨.bl _, H, I, rfl, q⟩
theorem op_notInT (hu : X.A.units + 65 < cLine) : OpR X (compareOp .NotIn) (fun x y H Q => ∃ d ds, Dp X.K H x d ∧ Dp X.K H y (.tuple ds) ∧ SeqAt.shaped d = true ∧ SeqAt.shaped (.tuple ds) = true ∧ Q (.bl (!ds.any fun z => PyData.eqv z d)) H) := by
  intro pins s σ H x y v u Q I rx ry h
  obtain ⟨d, ds, hd, he, sd, se, q⟩ := h
  obtain ⟨as, r1⟩ := Dp.reads I d x v hd rx
  obtain ⟨bs, r2⟩ := Dp.reads I (.tuple ds) y u he ry
  exact SeqAt.notIn_tuple_reads r2 r1 (SeqAt.canLay_of_shaped se) (SeqAt.canLay_of_shaped sd) (room_in_shaped sd hu) ⟨.bl _, H, I, rfl, q⟩
/-- not in a range: by the same road as in -/
theorem op_notIn_rng : OpR X (compareOp .NotIn) (fun x y H Q => ∃ i a lo hi, x = V.int i ∧ y = V.ref a ∧ H a = some (.rng lo hi) ∧ Q (.bl (!decide (lo ≤ i ∧ i < hi))) H) := by
  intro pins s σ H x y v u Q I rx ry h
  obtain ⟨i, a, lo, hi, rfl, rfl, ha, q⟩ := h
  obtain ⟨k, rfl⟩ := rx
  obtain rfl : u = Value.ref a := ry
  obtain ⟨t1, t2, t3, ho⟩ := I.hok a _ ha
  show wpAny _ _ (do return Value.bool (!(← contains (Value.ref a) (Value.int i k)))) _ _ s
  refine wpAny_bind (wpAny_contains_slot (T := "range") ⟨_, ho, rfl⟩ F.slot_range_contains (call_meets F.slot_range_contains ⟨_, ho, rfl⟩ F.entry_range_contains (F.args_range_contains_2 _ _) (q_contains a lo hi i t1 t2 t3 k)
    ⟨ho, wpAny_truthy_bool (wpAny_pure ⟨.bl _, H, I, rfl, ?_⟩)⟩))
  rw [place1]
  exact q
theorem any_py (a : D) (n : Nat) (ha : okD a n = true) : ∀ (ys : List D) (m : Nat), okDs ys m = true → ((D.pys ys).any fun z => PyData.eqv z a.py) = ys.any fun y => deq y a
  | [], m, h => by simp [D.pys]
  | y :: ys, m, h => by
    simp only [okDs, Bool.and_eq_true] at h
    simp only [D.pys, List.any_cons]
    rw [deq_py y a m n h.1 ha, any_py a n ha ys m h.2]
/-- the road of in, for both answers -/
theorem in_road {f : Bool → Bool} {op : CmpOp} (hk : X.K = c.K)
    (hL : OpR X (compareOp op) (fun x y H Q => ∃ d ds, Dp X.K H x d ∧ Dp X.K H y (.list ds) ∧ SeqAt.shaped d = true ∧ SeqAt.shaped (.list ds) = true ∧ Q (.bl (f (ds.any fun z => PyData.eqv z d))) H))
    (hT : OpR X (compareOp op) (fun x y H Q => ∃ d ds, Dp X.K H x d ∧ Dp X.K H y (.tuple ds) ∧ SeqAt.shaped d = true ∧ SeqAt.shaped (.tuple ds) = true ∧ Q (.bl (f (ds.any fun z => PyData.eqv z d))) H))
    (hS : OpR X (compareOp op) (fun x y H Q => ∃ (c : Nat) (z : Str), x = .str ⟨#[c]⟩ ∧ y = .str z ∧ Q (.bl (f (decide (c ∈ z.cps.toList)))) H))
    (hR : OpR X (compareOp op) (fun x y H Q => ∃ i a lo hi, x = V.int i ∧ y = V.ref a ∧ H a = some (.rng lo hi) ∧ Q (.bl (f (decide (lo ≤ i ∧ i < hi)))) H))
    (hD : OpR X (compareOp op) (fun x y H Q => ∃ a o, y = .ref a ∧ DGet H a x o ∧ Q (.bl (f o.isSome)) H)) :
    OpR X (compareOp op) (fun x y H Q => ∃ S dx dy b, Same S H ∧ Rep c S dx x ∧ Rep c S dy y ∧ inF dx dy = some b ∧ Q (.bl (f b)) H) := by
  refine OpR.cases fun x y H Q ⟨S, dx, dy, b, hs, rx, ry, e, q⟩ => ?_
  have dicts : ∀ r : Option D, getF dy dx = some r → r.isSome = b → ∃ r, OpR X (compareOp op) r ∧ r x y H Q := fun r h1 h2 => by
    obtain ⟨p, o, rfl, g, h3⟩ := getF_get hs h1 ry rx
    refine ⟨_, hD, p, o, rfl, g, ?_⟩
    have e : o.isSome = b := by
      rw [← h2]
      cases r with
      | none =>
        have h3 : o = none := h3
        rw [h3]; rfl
      | some d =>
        obtain ⟨v, h3, _⟩ := h3
        rw [h3]; rfl
    rw [e]
    exact q
  cases dy with
  | lst ys =>
    simp only [inF] at e
    split at e
    · rename_i h
      simp only [Bool.and_eq_true] at h
      cases e
      have hl : okDs ys 63 = true := by simpa only [okD] using h.2
      refine ⟨_, hL, dx.py, D.pys ys, by rw [hk]; exact Rep.dp hs dx x 64 h.1 rx, by rw [hk]; have := Rep.dp hs (.lst ys) y 64 h.2 ry; simpa only [D.py] using this, okD_shaped h.1, by have := okD_shaped h.2; simpa only [D.py] using this, ?_⟩
      rw [any_py dx 64 h.1 ys 63 hl]
      exact q
    · cases e
  | tup ys =>
    simp only [inF] at e
    split at e
    · rename_i h
      simp only [Bool.and_eq_true] at h
      cases e
      have hl : okDs ys 63 = true := by simpa only [okD] using h.2
      refine ⟨_, hT, dx.py, D.pys ys, by rw [hk]; exact Rep.dp hs dx x 64 h.1 rx, by rw [hk]; have := Rep.dp hs (.tup ys) y 64 h.2 ry; simpa only [D.py] using this, okD_shaped h.1, by have := okD_shaped h.2; simpa only [D.py] using this, ?_⟩
      rw [any_py dx 64 h.1 ys 63 hl]
      exact q
    · cases e
  | str t =>
    cases dx <;> simp only [inF, reduceCtorEq] at e
    rename_i s
    match s, e with
    | [z], e =>
      simp only [inF, Option.some.injEq] at e
      simp only [Rep] at rx ry
      refine ⟨_, hS, z, toStr t, rx, ry, ?_⟩
      have e2 : decide (z ∈ (toStr t).cps.toList) = b := by rw [← e]; exact decide_eq_decide.mpr (by simp [toStr])
      rw [e2]
      exact q
    | [], e => cases e
    | _ :: _ :: _, e => cases e
  | rng lo hi =>
    cases dx <;> simp only [inF, reduceCtorEq] at e
    cases e
    simp only [Rep] at rx ry
    obtain ⟨a, rfl, ha⟩ := ry
    refine ⟨_, hR, _, a, lo, hi, rx, rfl, hs _ _ ha, ?_⟩
    rw [Bool.decide_and]
    exact q
  | dK ks vs =>
    simp only [inF] at e
    cases hk : keyD dx with
    | none => rw [hk] at e; cases e
    | some k =>
      rw [hk] at e
      have hl : ks.length = vs.length := by
        simp only [Rep] at ry
        obtain ⟨p, ws, _, _, h1, h2⟩ := ry
        rw [h1, h2.length]
      exact dicts (dget ks vs k) (by simp only [getF, hk]) (by rw [dget_isSome k ks vs hl]; exact (decide_eq_decide.mpr Iff.rfl).trans (Option.some.inj e))
  | dT ks vs =>
    cases dx <;> simp only [inF, reduceCtorEq] at e
    rename_i xs
    cases hk : keysD xs with
    | none => rw [hk] at e; cases e
    | some k =>
      rw [hk] at e
      have hl : ks.length = vs.length := by
        simp only [Rep] at ry
        obtain ⟨p, ws, _, _, h1, h2⟩ := ry
        rw [h1, h2.length]
      exact dicts (dget ks vs k) (by simp only [getF, hk]) (by rw [dget_isSome k ks vs hl]; exact (decide_eq_decide.mpr Iff.rfl).trans (Option.some.inj e))
  | _ => cases dx <;> simp only [inF, reduceCtorEq] at e
theorem op_inF (hk : X.K = c.K) (hu : X.A.units + 65 < cLine) : OpR X (compareOp .In) (rC c inF) :=
  in_road (f := fun b => b) hk (op_inD hu) (op_inT hu) op_in_sign op_in_rng (op_dIn (by omega))
theorem op_notInF (hk : X.K = c.K) (hu : X.A.units + 65 < cLine) : OpR X (compareOp .NotIn) (rC c fun a b => notB (inF a b)) := by
  refine OpR.mono (in_road (f := fun b => !b) hk (op_notInD hu) (op_notInT hu) op_notIn_sign op_notIn_rng (op_dNotIn (by omega))) fun x y H Q ⟨S, dx, dy, b, hs, rx, ry, e, q⟩ => ?_
  have e : notB (inF dx dy) = some b := e
  cases h : inF dx dy with
  | none => rw [h] at e; cases e
  | some b' =>
    rw [h] at e
    cases e
    exact ⟨S, dx, dy, b', hs, rx, ry, h, q⟩
theorem op_cmpF (hk : X.K = c.K) (hu : X.A.units + 65 < cLine) : ∀ op : CmpOp, OpR X (compareOp op) (rC c (cmpF op))
  | .Eq => op_eqF hk hu
  | .NotEq => op_neF hk hu
  | .Lt => op_ltF
  | .LtE => op_leF
  | .Gt => op_gtF
  | .GtE => op_geF
  | .Is => op_isF
  | .IsNot => op_isnotF
  | .In => op_inF hk hu
  | .NotIn => op_notInF hk hu
end
end Mp
end
section
/-! Mp6: names, constants, operators, tests. -/
namespace Mp
open PySem L2 PyProof.Rows

def upF (F : Nat → List Addr) (i : Nat) (A : List Addr) : Nat → List Addr := fun j => if j = i then A else F j
theorem upF_same {F : Nat → List Addr} {i : Nat} {A : List Addr} : upF F i A i = A := if_pos rfl
theorem upF_ne {F : Nat → List Addr} {i j : Nat} {A : List Addr} (h : j ≠ i) : upF F i A j = F j := if_neg h
section
variable {c : Wd} {J : Hp → Prop} {S H : Hp} {A : List Addr} {σ : L2.St} {env : Env} {F : Nat → List Addr} {i : Nat} {o : O} {v : V}
theorem un_upF {a : Addr} : un (upF F i A) a ↔ (a ∈ A ∨ ∃ j, j ≠ i ∧ a ∈ F j) := by
  constructor
  · rintro ⟨j, h⟩
    by_cases e : j = i
    · subst e
      rw [upF_same] at h
      exact .inl h
    · rw [upF_ne e] at h
      exact .inr ⟨j, e, h⟩
  · rintro (h | ⟨j, e, h⟩)
    · exact ⟨i, by rw [upF_same]; exact h⟩
    · exact ⟨j, by rw [upF_ne e]; exact h⟩
theorem un_take {a : Addr} : un F a ↔ plus (un (upF F i [])) (F i) a := by
  unfold plus
  rw [un_upF]
  constructor
  · rintro ⟨j, h⟩
    by_cases e : j = i
    · subst e
      exact .inr h
    · exact .inl (.inr ⟨j, e, h⟩)
  · rintro ((h | ⟨j, e, h⟩) | h)
    · exact absurd h (by simp)
    · exact ⟨j, h⟩
    · exact ⟨i, h⟩
theorem un_put {a : Addr} : un (upF F i A) a ↔ plus (un (upF F i [])) A a := by
  unfold plus
  rw [un_upF, un_upF]
  constructor
  · rintro (h | h)
    · exact .inr h
    · exact .inl (.inr h)
  · rintro ((h | h) | h)
    · exact absurd h (by simp)
    · exact .inr h
    · exact .inl h
/-- a slot's thing is taken out -/
theorem Good.take (g : Good c J σ H S env F) (e : env[i]? = some (some o)) :
    ∃ v, σ[i]? = some (some v) ∧ Ro c S H o v (F i) ∧ Good c J σ H S (env.set i none) (upF F i []) ∧ Apart (F i) (un (upF F i [])) := by
  obtain ⟨v, e1, r⟩ := g.rep i o e
  refine ⟨v, e1, r, ⟨g.sub, g.inv, fun j o' h => ?_, fun j => ?_, fun j k a hj hk => ?_, fun j h => ?_, by rw [List.length_set]; exact g.len⟩, ⟨g.nod i, fun a ha z => ?_⟩⟩
  · by_cases hj : j = i
    · subst hj
      have hl : j < env.length := (List.getElem?_eq_some_iff.mp e).1
      rw [List.getElem?_set_self hl] at h
      cases h
    · rw [List.getElem?_set_ne (Ne.symm hj)] at h
      rw [upF_ne hj]
      exact g.rep j o' h
  · by_cases hj : j = i
    · subst hj
      rw [upF_same]
      exact List.nodup_nil
    · rw [upF_ne hj]
      exact g.nod j
  · by_cases h1 : j = i
    · subst h1
      rw [upF_same] at hj
      exact absurd hj (by simp)
    · by_cases h2 : k = i
      · subst h2
        rw [upF_same] at hk
        exact absurd hk (by simp)
      · rw [upF_ne h1] at hj
        rw [upF_ne h2] at hk
        exact g.dis j k a hj hk
  · by_cases hj : j = i
    · subst hj
      exact upF_same
    · rw [upF_ne hj]
      exact g.nil j fun o' z => h o' (by rw [List.getElem?_set_ne (Ne.symm hj)]; exact z)
  · rw [un_upF] at z
    rcases z with z | ⟨j, hj, hz⟩
    · exact absurd z (by simp)
    · exact hj (g.dis j i a hz ha)
/-- a slot is stored -/
theorem Good.set (g : Good c J σ H S env F) (hi : i < env.length) (r : Ro c S H o v A) (ap : Apart A (un (upF F i []))) :
    Good c J (σ.set i (some v)) H S (env.set i (some o)) (upF F i A) where
  sub := g.sub
  inv := g.inv
  rep := fun j o' h => by
    by_cases hj : j = i
    · subst hj
      rw [List.getElem?_set_self hi] at h
      cases h
      rw [upF_same]
      exact ⟨v, by rw [List.getElem?_set_self (by rw [← g.len]; exact hi)], r⟩
    · rw [List.getElem?_set_ne (Ne.symm hj)] at h
      obtain ⟨v', e, r'⟩ := g.rep j o' h
      rw [upF_ne hj]
      exact ⟨v', by rw [List.getElem?_set_ne (Ne.symm hj)]; exact e, r'⟩
  nod := fun j => by
    by_cases hj : j = i
    · subst hj
      rw [upF_same]
      exact ap.nod
    · rw [upF_ne hj]
      exact g.nod j
  dis := fun j k a hj hk => by
    by_cases h1 : j = i
    · by_cases h2 : k = i
      · rw [h1, h2]
      · subst h1
        rw [upF_same] at hj
        rw [upF_ne h2] at hk
        exact absurd (un_upF.mpr (.inr ⟨k, h2, hk⟩)) (ap.out a hj)
    · by_cases h2 : k = i
      · subst h2
        rw [upF_same] at hk
        rw [upF_ne h1] at hj
        exact absurd (un_upF.mpr (.inr ⟨j, h1, hj⟩)) (ap.out a hk)
      · rw [upF_ne h1] at hj
        rw [upF_ne h2] at hk
        exact g.dis j k a hj hk
  nil := fun j h => by
    by_cases hj : j = i
    · subst hj
      exact absurd (List.getElem?_set_self hi) (h o)
    · rw [upF_ne hj]
      exact g.nil j fun o' z => h o' (by rw [List.getElem?_set_ne (Ne.symm hj)]; exact z)
  len := by rw [List.length_set, List.length_set]; exact g.len
/-- .. put back where the slot already holds the value -/
theorem Good.back (g : Good c J σ H S env F) (e : σ[i]? = some (some v)) (r : Ro c S H o v A) (ap : Apart A (un (upF F i []))) : Good c J σ H S (env.set i (some o)) (upF F i A) := by
  have hl : i < σ.length := (List.getElem?_eq_some_iff.mp e).1
  have h := g.set (by rw [g.len]; exact hl) r ap
  have e2 : σ.set i (some v) = σ := by
    obtain ⟨h1, h2⟩ := List.getElem?_eq_some_iff.mp e
    rw [← h2]
    exact List.set_getElem_self h1
  rw [e2] at h
  exact h
theorem upF_self (h : F i = A) : upF F i A = F := by
  funext j
  unfold upF
  split
  · rename_i e
    rw [e, h]
  · rfl
theorem apart_nil {U : Uset} : Apart [] U := ⟨List.nodup_nil, fun a h => absurd h (by simp)⟩
theorem upF_upF {B : List Addr} : upF (upF F i A) i B = upF F i B := by
  funext j
  unfold upF
  split <;> rfl
end

/-! ### names -/
/-- a name's value, shared from now on -/
def getV (i : Nat) : M D := fun env => match env[i]? with
  | some (some (.sh d)) => (.ok d, env)
  | some (some o) => (.ok o.share, env.set i (some (.sh o.share)))
  | _ => (.bad, env)
/-- a name's value, taken out -/
def mvV (i : Nat) : M O := fun env => match env[i]? with
  | some (some (.sh d)) => (.ok (.sh d), env)
  | some (some o) => (.ok o, env.set i none)
  | _ => (.bad, env)
section
variable {c : Wd} {J : Hp → Prop} {W : WX} {X : Cx}
theorem getV_sh {i : Nat} {env : Env} {d : D} (e : env[i]? = some (some (.sh d))) : getV i env = (.ok d, env) := by
  unfold getV
  rw [e]
theorem getV_ok {i : Nat} {env : Env} {o : O} (e : env[i]? = some (some o)) : ∃ env', getV i env = (.ok o.share, env') ∧ (env' = env ∧ (∃ d, o = .sh d) ∨ env' = env.set i (some (.sh o.share))) := by
  unfold getV
  rw [e]
  cases o with
  | sh d => exact ⟨env, by simp only [O.share], .inl ⟨rfl, d, rfl⟩⟩
  | _ => exact ⟨_, rfl, .inr rfl⟩
theorem getV_no {i : Nat} {env : Env} (e : ∀ o, env[i]? ≠ some (some o)) : getV i env = (.bad, env) := by
  unfold getV
  cases h : env[i]? with
  | none => rfl
  | some x =>
    cases x with
    | none => rfl
    | some o => exact absurd h (e o)
theorem pe_getV {i : Nat} {x : Str} {pos : Pos} (hN : X.N[i]? = some x) (hv : Vis X.env.scope x) (hd : (x == ("__debug__" : Str)) = false) (hcd : (x == ("__classdict__" : Str)) = false) : PE X (.Name x pos) (tD c J W (getV i)) := by
  refine PE.mono (pe_var hN hv hd hcd) fun σ H Q ⟨env, S, F, g, q⟩ => ?_
  cases e : env[i]? with
  | none =>
    rw [getV_no fun o h => by rw [e] at h; cases h] at q
    exact q.elim
  | some y =>
    cases y with
    | none =>
      rw [getV_no fun o h => by rw [e] at h; cases h] at q
      exact q.elim
    | some o =>
      obtain ⟨env', h1, h2⟩ := getV_ok e
      rw [h1] at q
      rcases h2 with ⟨h2, d, rfl⟩ | h2
      · rw [h2] at q
        obtain ⟨v, e1, r⟩ := g.rep i _ e
        simp only [Ro] at r
        exact ⟨v, e1, q v S H F [] g (Step.refl.post fun a h => plus_nil.mp h) ⟨by simpa only [O.share] using r.1, rfl⟩ apart_nil⟩
      · rw [h2] at q
        obtain ⟨v, e1, r, g1, ap⟩ := g.take e
        obtain ⟨S', g2, r2, s2, sm⟩ := g1.share r ap
        have g3 := g2.back (v := v) (o := .sh o.share) (A := []) e1 (by simp only [Ro]; exact ⟨r2, trivial⟩) apart_nil
        rw [upF_upF, List.set_set] at g3
        refine ⟨v, e1, q v S' H (upF F i []) [] g3 ?_ ⟨r2, rfl⟩ apart_nil⟩
        exact (s2.pre fun a h => un_take.mpr h).post fun a h => plus_nil.mp h
theorem pe_mvV {i : Nat} {x : Str} {pos : Pos} (hN : X.N[i]? = some x) (hv : Vis X.env.scope x) (hd : (x == ("__debug__" : Str)) = false) (hcd : (x == ("__classdict__" : Str)) = false) : PE X (.Name x pos) (tO c J W (mvV i)) := by
  refine PE.mono (pe_var hN hv hd hcd) fun σ H Q ⟨env, S, F, g, q⟩ => ?_
  have no : (∀ o, env[i]? ≠ some (some o)) → mvV i env = (.bad, env) := fun h => by
    unfold mvV
    cases h2 : env[i]? with
    | none => rfl
    | some x =>
      cases x with
      | none => rfl
      | some o => exact absurd h2 (h o)
  cases e : env[i]? with
  | none =>
    rw [no fun o h => by rw [e] at h; cases h] at q
    exact q.elim
  | some y =>
    cases y with
    | none =>
      rw [no fun o h => by rw [e] at h; cases h] at q
      exact q.elim
    | some o =>
      have out : mvV i env = (.ok o, env.set i none) → ∃ v, σ[i]? = some (some v) ∧ Q v H := fun h => by
        rw [h] at q
        obtain ⟨v, e1, r, g1, ap⟩ := g.take e
        exact ⟨v, e1, q v S H _ (F i) g1 (Step.refl.post fun a h => un_take.mpr h) r ap⟩
      cases o with
      | sh d =>
        have h : mvV i env = (.ok (.sh d), env) := by
          unfold mvV
          rw [e]
        rw [h] at q
        obtain ⟨v, e1, r⟩ := g.rep i _ e
        simp only [Ro] at r
        exact ⟨v, e1, q v S H F [] g (Step.refl.post fun a h => plus_nil.mp h) (by simp only [RO, Ro]; exact ⟨r.1, trivial⟩) apart_nil⟩
      | lst xs => exact out (by unfold mvV; rw [e])
      | dK ks xs => exact out (by unfold mvV; rw [e])
      | dT ks xs => exact out (by unfold mvV; rw [e])
      | ins k xs => exact out (by unfold mvV; rw [e])

/-! ### constants -/
theorem tC_ret {d : D} {v : V} (r : ∀ S, Rep c S d v) {σ : L2.St} {H : Hp} {Q : VK} (h : tD c J W (ret d) σ H Q) : Q v H := by
  obtain ⟨env, S, F, g, q⟩ := h
  exact q v S H F [] g (Step.refl.post fun a h => plus_nil.mp h) ⟨r S, rfl⟩ apart_nil
theorem pe_cInt {i : Int} {j : Nat} {pos : Pos} : PE X (.Constant (.int i) j pos) (tD c J W (ret (.int i))) := PE.mono pe_int fun σ H Q h => tC_ret (fun S => by simp only [Rep]) h
theorem pe_cBl {b : Bool} {j : Nat} {pos : Pos} : PE X (.Constant (.bool b) j pos) (tD c J W (ret (.bl b))) := PE.mono pe_bl fun σ H Q h => tC_ret (fun S => by simp only [Rep]) h
theorem pe_cNon {j : Nat} {pos : Pos} : PE X (.Constant .none j pos) (tD c J W (ret .non)) := PE.mono pe_non fun σ H Q h => tC_ret (fun S => by simp only [Rep]) h
theorem pe_cStr {x : Str} {s : Sg} {j : Nat} {pos : Pos} (e : x = toStr s) : PE X (.Constant (.str x) j pos) (tD c J W (ret (.str s))) := PE.mono pe_str fun σ H Q h => tC_ret (fun S => by simp only [Rep, e]) h
theorem pe_cGlob {x : Str} {s : Sg} {u : Value} {pos : Pos} (hg : Gl X x) (hm : X.mg x = some u) (r : RelV (.str (toStr s)) u) (hd : (x == ("__debug__" : Str)) = false) : PE X (.Name x pos) (tD c J W (ret (.str s))) :=
  PE.mono (pe_glob hg hm r hd) fun σ H Q h => tC_ret (fun S => by simp only [Rep]) h

/-! ### operators -/
/-- o, made, takes its place -/
theorem made_out {S0 H0 : Hp} {U0 : Uset} {o : O} {σ : L2.St} {S H : Hp} {env : Env} {F : Nat → List Addr} {Q : VK} (wo : WdOk c J) (g : Good c J σ H S env F) (s : Step S0 H0 U0 S H (un F))
    (q : ∀ v S' H' F' A', Good c J σ H' S' env F' → Step S0 H0 U0 S' H' (plus (un F') A') → Ro c S' H' o v A' → Apart A' (un F') → Q v H') : Made c S H o Q := fun v S' H' A gr hs r nd hn =>
  q v S' H' F A (gr.good wo hs g) (s.trans (gr.step hn)) r ⟨nd, fun a ha z => by
    obtain ⟨⟨x, e⟩, _⟩ := g.held z
    rw [hn a ha] at e
    cases e⟩
def bin (f : D → D → Option O) (ma mb : M D) : M O := bnd ma fun a => bnd mb fun b => lift (f a b)
theorem pe_bin {op : Operator} {a b : Expr} {ma mb : M D} {pos : Pos} (wo : WdOk c J) (ha : PE X a (tD c J W ma)) (hb : PE X b (tD c J W mb)) : PE X (.BinOp a op b pos) (tO c J W (bin (binF op) ma mb)) := by
  refine PE.mono (pe_op (op_binF (c := c) op) ha hb) fun σ H Q ⟨env, S, F, g, q⟩ => ?_
  refine ⟨env, S, F, g, Fin.seq0 q fun da env1 x S1 H1 F1 A1 e1 g1 s1 r1 ap1 q => ?_⟩
  obtain ⟨r1, rfl⟩ := r1
  refine ⟨env1, S1, F1, g1, Fin.seq0 q.unil fun db env2 y S2 H2 F2 A2 e2 g2 s2 r2 ap2 q => ?_⟩
  obtain ⟨r2, rfl⟩ := r2
  refine ⟨S2, da, db, ?_⟩
  cases e3 : binF op da db with
  | none =>
    simp only [lift, e3] at q
    exact q.elim
  | some o =>
    simp only [lift, e3] at q
    exact ⟨o, g2.sub, Rep.mono s2.sh _ _ r1, r2, rfl, made_out wo g2 Step.refl q.unil⟩
end
end Mp
end
section
/-! Mp7: comparisons, tests, and, or, not, conditional expressions. -/
namespace Mp
open PySem L2 PyProof.Rows
section
variable {c : Wd} {J : Hp → Prop} {W : WX} {X : Cx} {a b : Expr} {ma mb : M D} {pos : Pos}
def cmpM (f : D → D → Option Bool) (ma mb : M D) : M Bool := bnd ma fun a => bnd mb fun b => lift (f a b)
/-- two operands, shared, then what is asked of them -/
theorem two {γ δ : Type} {R : RR γ δ} {σ : L2.St} {H : Hp} {Q : δ → Hp → Prop} {f : D → D → M γ} {ta tb : TE} {R2 : V → V → Hp → Prop}
    (hab : ∀ {Q1 : VK}, tD c J W ma σ H Q1 → ta σ H Q1) (hb : ∀ {H1 : Hp} {Q1 : VK}, tD c J W mb σ H1 Q1 → tb σ H1 Q1)
    (h : tG c J R W (bnd ma fun a => bnd mb fun b => f a b) σ H Q)
    (k : ∀ da db x y env S H F, Good c J σ H S env F → Rep c S da x → Rep c S db y → Fin c J R W S H (un F) σ Q (f da db env) → R2 x y H) :
    ta σ H fun x H1 => tb σ H1 fun y H2 => R2 x y H2 := by
  obtain ⟨env, S, F, g, q⟩ := h
  refine hab ⟨env, S, F, g, Fin.seq0 q fun da env1 x S1 H1 F1 A1 e1 g1 s1 r1 ap1 q => ?_⟩
  obtain ⟨r1, rfl⟩ := r1
  refine hb ⟨env1, S1, F1, g1, Fin.seq0 q.unil fun db env2 y S2 H2 F2 A2 e2 g2 s2 r2 ap2 q => ?_⟩
  obtain ⟨r2, rfl⟩ := r2
  exact k da db x y env2 S2 H2 F2 g2 (Rep.mono s2.sh _ _ r1) r2 q.unil
theorem Fin.okB {σ : L2.St} {S H : Hp} {env : Env} {F : Nat → List Addr} {Q : Bool → Hp → Prop} {b : Bool} (g : Good c J σ H S env F) (q : Fin c J RB W S H (un F) σ Q (.ok b, env)) : Q b H :=
  q b S H F [] g (Step.refl.post fun a h => plus_nil.mp h) ⟨rfl, rfl⟩ apart_nil
theorem Fin.okD {σ : L2.St} {S H : Hp} {env : Env} {F : Nat → List Addr} {Q : VK} {d : D} {v : V} (g : Good c J σ H S env F) (q : Fin c J (RD c) W S H (un F) σ Q (.ok d, env)) (r : Rep c S d v) : Q v H :=
  q v S H F [] g (Step.refl.post fun a h => plus_nil.mp h) ⟨r, rfl⟩ apart_nil
theorem pt_cmp {op : CmpOp} (hk : X.K = c.K) (hu : X.A.units + 65 < cLine) (ha : PE X a (tD c J W ma)) (hb : PE X b (tD c J W mb)) (hm : behindInMarks op b = false) : PT X (.Compare a [op] [b] pos) (tB c J W (cmpM (cmpF op) ma mb)) := by
  refine PT.mono (pt_cmpR (op_cmpF hk hu op) ha hb hm) fun σ H Q h => ?_
  refine two (ta := tD c J W ma) (tb := tD c J W mb) (fun z => z) (fun z => z) h fun da db x y env S H F g ra rb q => ?_
  refine ⟨S, da, db, ?_⟩
  cases e : cmpF op da db with
  | none =>
    simp only [lift, e] at q
    exact q.elim
  | some r =>
    simp only [lift, e] at q
    exact ⟨r, g.sub, ra, rb, rfl, r, rfl, Fin.okB g q⟩
/-- a test as a value -/
def ofB (m : M Bool) : M D := bnd m fun b => ret (.bl b)
theorem pe_cmpV {op : CmpOp} (hk : X.K = c.K) (hu : X.A.units + 65 < cLine) (ha : PE X a (tD c J W ma)) (hb : PE X b (tD c J W mb)) (hm : behindInMarks op b = false) : PE X (.Compare a [op] [b] pos) (tD c J W (ofB (cmpM (cmpF op) ma mb))) := by
  refine PE.mono (pe_cmpR (op_cmpF hk hu op) ha hb hm) fun σ H Q h => ?_
  have h2 : tD c J W (bnd ma fun a => bnd mb fun b => bnd (lift (cmpF op a b)) fun k => ret (.bl k)) σ H Q := by
    obtain ⟨env, S, F, g, q⟩ := h
    refine ⟨env, S, F, g, ?_⟩
    have e : ofB (cmpM (cmpF op) ma mb) env = (bnd ma fun a => bnd mb fun b => bnd (lift (cmpF op a b)) fun k => ret (.bl k)) env := by
      unfold ofB cmpM bnd
      rcases ma env with ⟨_ | _ | _, env1⟩ <;> try rfl
      dsimp only
      rcases mb env1 with ⟨_ | _ | _, env2⟩ <;> rfl
    rw [← e]
    exact q
  refine two (ta := tD c J W ma) (tb := tD c J W mb) (fun z => z) (fun z => z) h2 fun da db x y env S H F g ra rb q => ?_
  refine ⟨S, da, db, ?_⟩
  cases e : cmpF op da db with
  | none =>
    simp only [lift, e, bnd] at q
    exact q.elim
  | some r =>
    simp only [lift, e, bnd, ret] at q
    exact ⟨r, g.sub, ra, rb, rfl, Fin.okD g q (by simp only [Rep])⟩
/-- a < b < c -/
def chainM (f f' : D → D → Option Bool) (ma mb mc : M D) : M Bool := bnd ma fun a => bnd mb fun b => bnd (lift (f a b)) fun k => if k then bnd mc fun z => lift (f' b z) else ret false
theorem pt_chainM {op op' : CmpOp} {d : Expr} {mc : M D} (hk : X.K = c.K) (hu : X.A.units + 65 < cLine) (ha : PE X a (tD c J W ma)) (hb : PE X b (tD c J W mb)) (hc : PE X d (tD c J W mc)) (hm : behindInMarks op' d = false) :
    PT X (.Compare a [op, op'] [b, d] pos) (tB c J W (chainM (cmpF op) (cmpF op') ma mb mc)) := by
  refine PT.mono (pt_chain (op_cmpF hk hu op) (op_cmpF hk hu op') ha hb hc (show lastMarks [op, op'] [b, d] = false from hm)) fun σ H Q h => ?_
  refine two (ta := tD c J W ma) (tb := tD c J W mb) (fun z => z) (fun z => z) h fun da db x y env S H F g ra rb q => ?_
  refine ⟨S, da, db, ?_⟩
  cases e : cmpF op da db with
  | none =>
    simp only [lift, e, bnd] at q
    exact q.elim
  | some r =>
    simp only [lift, e, bnd] at q
    refine ⟨r, g.sub, ra, rb, rfl, r, rfl, ?_⟩
    cases r with
    | false =>
      exact ⟨false, rfl, Fin.okB g q⟩
    | true =>
      refine ⟨env, S, F, g, Fin.seq0 (f := fun z => lift (cmpF op' db z)) q fun dc env2 z S2 H2 F2 A2 e2 g2 s2 r2 ap2 q => ?_⟩
      obtain ⟨r2, rfl⟩ := r2
      refine ⟨S2, db, dc, ?_⟩
      cases e3 : cmpF op' db dc with
      | none =>
        simp only [lift, e3] at q
        exact q.elim
      | some r =>
        simp only [lift, e3] at q
        exact ⟨r, g2.sub, Rep.mono s2.sh _ _ rb, r2, rfl, r, rfl, Fin.okB g2 q.unil⟩
theorem pe_chainV {op op' : CmpOp} {d : Expr} {mc : M D} (hk : X.K = c.K) (hu : X.A.units + 65 < cLine) (ha : PE X a (tD c J W ma)) (hb : PE X b (tD c J W mb)) (hc : PE X d (tD c J W mc)) (hm : behindInMarks op' d = false) :
    PE X (.Compare a [op, op'] [b, d] pos) (tD c J W (ofB (chainM (cmpF op) (cmpF op') ma mb mc))) := by
  refine PE.mono (pe_chain (op_cmpF hk hu op) (op_cmpF hk hu op') ha hb hc (show lastMarks [op, op'] [b, d] = false from hm)) fun σ H Q h => ?_
  have h2 : tD c J W (bnd ma fun a => bnd mb fun b => bnd (lift (cmpF op a b)) fun k => if k then bnd mc fun z => bnd (lift (cmpF op' b z)) fun k => ret (.bl k) else ret (.bl false)) σ H Q := by
    obtain ⟨env, S, F, g, q⟩ := h
    refine ⟨env, S, F, g, ?_⟩
    have e : ofB (chainM (cmpF op) (cmpF op') ma mb mc) env = (bnd ma fun a => bnd mb fun b => bnd (lift (cmpF op a b)) fun k => if k then bnd mc fun z => bnd (lift (cmpF op' b z)) fun k => ret (.bl k) else ret (.bl false)) env := by
      unfold ofB chainM bnd
      rcases ma env with ⟨_ | _ | _, env1⟩ <;> try rfl
      dsimp only
      rcases mb env1 with ⟨_ | _ | _, env2⟩ <;> try rfl
      rename_i d1 d2
      dsimp only
      unfold lift
      rcases cmpF op d1 d2 with _ | k
      · rfl
      · dsimp only
        cases k with
        | false => rfl
        | true =>
          simp only [if_true]
          rcases mc env2 with ⟨_ | _ | _, env3⟩ <;> rfl
    rw [← e]
    exact q
  refine two (ta := tD c J W ma) (tb := tD c J W mb) (fun z => z) (fun z => z) h2 fun da db x y env S H F g ra rb q => ?_
  refine ⟨S, da, db, ?_⟩
  cases e : cmpF op da db with
  | none =>
    simp only [lift, e, bnd] at q
    exact q.elim
  | some r =>
    simp only [lift, e, bnd] at q
    refine ⟨r, g.sub, ra, rb, rfl, r, rfl, ?_⟩
    cases r with
    | false =>
      exact Fin.okD (v := V.bl false) (d := .bl false) g q (by simp only [Rep])
    | true =>
      refine ⟨env, S, F, g, Fin.seq0 (f := fun z => bnd (lift (cmpF op' db z)) fun k => ret (D.bl k)) q fun dc env2 z S2 H2 F2 A2 e2 g2 s2 r2 ap2 q => ?_⟩
      obtain ⟨r2, rfl⟩ := r2
      refine ⟨S2, db, dc, ?_⟩
      cases e3 : cmpF op' db dc with
      | none =>
        simp only [lift, e3, bnd] at q
        exact q.elim
      | some r =>
        simp only [lift, e3, bnd] at q
        exact ⟨r, g2.sub, Rep.mono s2.sh _ _ rb, r2, rfl, Fin.okD (v := V.bl r) (d := .bl r) g2 q.unil (by simp only [Rep])⟩
/-! ### truth -/
def truF : D → Option Bool
  | .non => some false
  | .bl b => some b
  | .int i => some (i != 0)
  | .str s => if s.length ≤ lim then some (!s.isEmpty) else none
  | .tup xs => some (!xs.isEmpty)
  | .lst xs => some (!xs.isEmpty)
  | .dK ks _ => some (!ks.isEmpty)
  | _ => none
theorem isEmpty_len {α β : Type} {xs : List α} {ys : List β} (h : xs.length = ys.length) : xs.isEmpty = ys.isEmpty := by
  cases xs <;> cases ys <;> first | rfl | simp at h
theorem truF_ok {S H : Hp} {d : D} {v : V} {k : Bool} (hs : Same S H) (h : truF d = some k) (r : Rep c S d v) : TruV X.K v H k := by
  cases d <;> simp only [truF, reduceCtorEq, Option.some.injEq] at h <;> simp only [Rep] at r
  · subst r; exact h.symm
  · subst r; exact h.symm
  · subst r; exact h.symm
  · subst r
    split at h
    · rename_i s hl
      cases h
      refine ⟨by rw [toStr_length, ← lim_eq]; exact hl, ?_⟩
      rw [toStr_length]
      cases s with
      | nil => rfl
      | cons x s =>
        have e : (((x :: s).length : Int) != 0) = true := by
          rw [List.length_cons]
          exact bne_iff_ne.mpr (by omega)
        rw [e]
        rfl
    · cases h
  · obtain ⟨a, vs, rfl, q, z⟩ := r
    refine .inr (.inl ⟨vs, .of (hs _ _ q), ?_⟩)
    rw [← h, isEmpty_len z.length]
  · obtain ⟨a, vs, rfl, q, z⟩ := r
    refine .inl ⟨vs, .of (hs _ _ q), ?_⟩
    rw [← h, isEmpty_len z.length]
  · obtain ⟨a, vs, rfl, q, l, z⟩ := r
    refine .inr (.inr ⟨_, hs _ _ q, ?_⟩)
    rw [← h]
    refine congrArg (!·) (isEmpty_len ?_)
    rw [List.length_zip, List.length_map, l, Nat.min_self]
def tru (ma : M D) : M Bool := bnd ma fun d => lift (truF d)
theorem pt_tru (ha : PE X a (tD c J W ma)) (he : ∀ whole, isTrue a X.env whole = (do let v ← whole; standAt a.pos; holding [v] (truthy v))) : PT X a (tB c J W (tru ma)) := by
  refine PT.mono (pt_truth ha he) fun σ H Q ⟨env, S, F, g, q⟩ => ?_
  refine ⟨env, S, F, g, Fin.seq0 q fun d env1 x S1 H1 F1 A1 e1 g1 s1 r1 ap1 q => ?_⟩
  obtain ⟨r1, rfl⟩ := r1
  cases e : truF d with
  | none =>
    simp only [lift, e] at q
    exact q.elim
  | some k =>
    simp only [lift, e] at q
    exact ⟨k, truF_ok g1.sub e r1, Fin.okB g1 q.unil⟩
def notM (m : M Bool) : M Bool := bnd m fun b => ret (!b)
theorem pt_notM {m : M Bool} (h : PT X a (tB c J W m)) : PT X (.UnaryOp .Not a pos) (tB c J W (notM m)) := by
  refine PT.mono (pt_not h) fun σ H Q ⟨env, S, F, g, q⟩ => ?_
  refine ⟨env, S, F, g, Fin.seq0 q fun k env1 x S1 H1 F1 A1 e1 g1 s1 r1 ap1 q => ?_⟩
  obtain ⟨rfl, rfl⟩ := r1
  exact Fin.okB g1 q.unil
theorem pe_notV (h : PE X a (tD c J W ma)) : PE X (.UnaryOp .Not a pos) (tD c J W (ofB (notM (tru ma)))) := by
  refine PE.mono (pe_notT h) fun σ H Q ⟨env, S, F, g, q⟩ => ?_
  refine ⟨env, S, F, g, ?_⟩
  have e : ofB (notM (tru ma)) env = (bnd ma fun d => bnd (lift (truF d)) fun k => ret (.bl (!k))) env := by
    unfold ofB notM tru bnd
    rcases ma env with ⟨_ | _ | _, env1⟩ <;> try rfl
    rename_i d
    dsimp only
    unfold lift
    rcases truF d with _ | k <;> rfl
  rw [e] at q
  refine Fin.seq0 q fun d env1 x S1 H1 F1 A1 e1 g1 s1 r1 ap1 q => ?_
  obtain ⟨r1, rfl⟩ := r1
  cases e : truF d with
  | none =>
    simp only [lift, e, bnd] at q
    exact q.elim
  | some k =>
    simp only [lift, e, bnd] at q
    exact ⟨k, truF_ok g1.sub e r1, Fin.okD (v := V.bl (!k)) (d := .bl (!k)) g1 q.unil (by simp only [Rep])⟩
/-! ### and, or as tests -/
def andM (m n : M Bool) : M Bool := bnd m fun k => if k then n else ret false
def orM (m n : M Bool) : M Bool := bnd m fun k => if k then ret true else n
theorem pw_andM {rest : List Expr} {m n : M Bool} (ha : PT X a (tB c J W m)) (hb : PW X (.BoolOp .And (b :: rest) pos) (tB c J W n)) : PW X (.BoolOp .And (a :: b :: rest) pos) (tB c J W (andM m n)) := by
  refine PW.mono (pw_and ha hb) fun σ H Q ⟨env, S, F, g, q⟩ => ?_
  refine ⟨env, S, F, g, Fin.seq0 (f := fun k => if k then n else ret false) q fun k env1 x S1 H1 F1 A1 e1 g1 s1 r1 ap1 q => ?_⟩
  obtain ⟨rfl, rfl⟩ := r1
  cases x with
  | true => exact iteT ⟨env1, S1, F1, g1, q.unil⟩
  | false => exact iteF (Fin.okB g1 q.unil)
theorem pw_orM {rest : List Expr} {m n : M Bool} (ha : PT X a (tB c J W m)) (hb : PW X (.BoolOp .Or (b :: rest) pos) (tB c J W n)) : PW X (.BoolOp .Or (a :: b :: rest) pos) (tB c J W (orM m n)) := by
  refine PW.mono (pw_or ha hb) fun σ H Q ⟨env, S, F, g, q⟩ => ?_
  refine ⟨env, S, F, g, Fin.seq0 (f := fun k => if k then ret true else n) q fun k env1 x S1 H1 F1 A1 e1 g1 s1 r1 ap1 q => ?_⟩
  obtain ⟨rfl, rfl⟩ := r1
  cases x with
  | true => exact iteT (Fin.okB g1 q.unil)
  | false => exact iteF ⟨env1, S1, F1, g1, q.unil⟩
/-! ### and, or as values -/
def andV (m n : M D) : M D := bnd m fun d => bnd (lift (truF d)) fun k => if k then n else ret d
def orV (m n : M D) : M D := bnd m fun d => bnd (lift (truF d)) fun k => if k then ret d else n
theorem pe_andV {rest : List Expr} (ha : PE X a (tD c J W ma)) (hb : PE X (.BoolOp .And (b :: rest) pos) (tD c J W mb)) : PE X (.BoolOp .And (a :: b :: rest) pos) (tD c J W (andV ma mb)) := by
  refine PE.mono (pe_andT ha hb) fun σ H Q ⟨env, S, F, g, q⟩ => ?_
  refine ⟨env, S, F, g, Fin.seq0 (f := fun d => bnd (lift (truF d)) fun k => if k then mb else ret d) q fun d env1 x S1 H1 F1 A1 e1 g1 s1 r1 ap1 q => ?_⟩
  obtain ⟨r1, rfl⟩ := r1
  cases e : truF d with
  | none =>
    simp only [lift, e, bnd] at q
    exact q.elim
  | some k =>
    simp only [lift, e, bnd] at q
    refine ⟨k, truF_ok g1.sub e r1, ?_⟩
    cases k with
    | true => exact iteT ⟨env1, S1, F1, g1, q.unil⟩
    | false => exact iteF (Fin.okD g1 q.unil r1)
theorem pe_orV {rest : List Expr} (ha : PE X a (tD c J W ma)) (hb : PE X (.BoolOp .Or (b :: rest) pos) (tD c J W mb)) : PE X (.BoolOp .Or (a :: b :: rest) pos) (tD c J W (orV ma mb)) := by
  refine PE.mono (pe_orT ha hb) fun σ H Q ⟨env, S, F, g, q⟩ => ?_
  refine ⟨env, S, F, g, Fin.seq0 (f := fun d => bnd (lift (truF d)) fun k => if k then ret d else mb) q fun d env1 x S1 H1 F1 A1 e1 g1 s1 r1 ap1 q => ?_⟩
  obtain ⟨r1, rfl⟩ := r1
  cases e : truF d with
  | none =>
    simp only [lift, e, bnd] at q
    exact q.elim
  | some k =>
    simp only [lift, e, bnd] at q
    refine ⟨k, truF_ok g1.sub e r1, ?_⟩
    cases k with
    | true => exact iteT (Fin.okD g1 q.unil r1)
    | false => exact iteF ⟨env1, S1, F1, g1, q.unil⟩
def iteM {α : Type} (t : M Bool) (m n : M α) : M α := bnd t fun k => if k then m else n
theorem pe_iteM {t : Expr} {mt : M Bool} {m n : M O} (ht : PT X t (tB c J W mt)) (ha : PE X a (tO c J W m)) (hb : PE X b (tO c J W n)) : PE X (.IfExp t a b pos) (tO c J W (iteM mt m n)) := by
  refine PE.mono (pe_ifExp ht ha hb) fun σ H Q ⟨env, S, F, g, q⟩ => ?_
  refine ⟨env, S, F, g, Fin.seq0 (f := fun k => if k then m else n) q fun k env1 x S1 H1 F1 A1 e1 g1 s1 r1 ap1 q => ?_⟩
  obtain ⟨rfl, rfl⟩ := r1
  cases x with
  | true => exact iteT ⟨env1, S1, F1, g1, q.unil⟩
  | false => exact iteF ⟨env1, S1, F1, g1, q.unil⟩
end
end Mp
end
section
/-! Mp8: argument lists, displays, calls of built-ins, subscripts, slices. -/
namespace Mp
open PySem L2 PyProof.Rows
section
variable {c : Wd} {J : Hp → Prop} {W : WX} {X : Cx} {e : Expr} {es : List Expr} {pos : Pos}
def nilL {α : Type} : M (List α) := ret []
def consL {α : Type} (m : M α) (ms : M (List α)) : M (List α) := bnd m fun x => bnd ms fun xs => ret (x :: xs)
theorem pa_nilO : PA X [] (tL c J W nilL) := PA.mono pa_nil fun σ H Q ⟨env, S, F, g, q⟩ => q [] S H F [] g (Step.refl.post fun a h => plus_nil.mp h) (by simp only [ROs, Ros]; exact ⟨trivial, trivial⟩) apart_nil
theorem pa_nilD : PA X [] (tLD c J W nilL) := PA.mono pa_nil fun σ H Q ⟨env, S, F, g, q⟩ => q [] S H F [] g (Step.refl.post fun a h => plus_nil.mp h) ⟨by simp only [Reps], rfl⟩ apart_nil
theorem nodup_app {A B : List Addr} (h1 : A.Nodup) (h2 : B.Nodup) (h : ∀ a ∈ A, a ∉ B) : (A ++ B).Nodup := List.nodup_append.mpr ⟨h1, h2, fun a ha b hb e => h a ha (e ▸ hb)⟩
theorem pa_consO {m : M O} {ms : M (List O)} (he : PE X e (tO c J W m)) (hr : PA X es (tL c J W ms)) (hs : starEach (e :: es) X.env = (false, eval e X.env) :: starEach es X.env) : PA X (e :: es) (tL c J W (consL m ms)) := by
  refine PA.mono (pa_cons he hr hs) fun σ H Q ⟨env, S, F, g, q⟩ => ?_
  refine ⟨env, S, F, g, Fin.seq0 q fun o env1 x S1 H1 F1 A1 e1 g1 s1 r1 ap1 q => ?_⟩
  refine ⟨env1, S1, F1, g1, Fin.seq (P := A1) q fun os env2 xs S2 H2 F2 A2 e2 g2 s2 r2 ap2 q => ?_⟩
  have held : ∀ a ∈ A1, ∃ o, H1 a = some o := fun a ha => (Ro.held o x A1 r1 a ha).1
  have out := s2.out held ap1.out
  refine q (x :: xs) S2 H2 F2 (A1 ++ A2) g2 (Step.refl.post fun a h => ?_) ?_ ⟨nodup_app ap1.nod ap2.nod fun a ha hb => out a ha (.inr hb), fun a ha => ?_⟩
  · rcases h with h | h
    · exact .inl (.inl h)
    · rcases List.mem_append.mp h with h | h
      · exact .inr h
      · exact .inl (.inr h)
  · simp only [ROs, Ros]
    exact ⟨x, xs, A1, A2, rfl, rfl, s2.ro r1 ap1.out, r2⟩
  · rcases List.mem_append.mp ha with h | h
    · exact fun z => out a h (.inl z)
    · exact ap2.out a h
theorem pa_consD {m : M D} {ms : M (List D)} (he : PE X e (tD c J W m)) (hr : PA X es (tLD c J W ms)) (hs : starEach (e :: es) X.env = (false, eval e X.env) :: starEach es X.env) : PA X (e :: es) (tLD c J W (consL m ms)) := by
  refine PA.mono (pa_cons he hr hs) fun σ H Q ⟨env, S, F, g, q⟩ => ?_
  refine ⟨env, S, F, g, Fin.seq0 q fun o env1 x S1 H1 F1 A1 e1 g1 s1 r1 ap1 q => ?_⟩
  obtain ⟨r1, rfl⟩ := r1
  refine ⟨env1, S1, F1, g1, Fin.seq0 q.unil fun os env2 xs S2 H2 F2 A2 e2 g2 s2 r2 ap2 q => ?_⟩
  obtain ⟨r2, rfl⟩ := r2
  exact q (x :: xs) S2 H2 F2 [] g2 Step.refl ⟨by simp only [Reps]; exact ⟨x, xs, rfl, Rep.mono s2.sh _ _ r1, r2⟩, rfl⟩ apart_nil
/-- *e -/
def seqF : D → Option (List D)
  | .lst xs => some xs
  | .tup xs => some xs
  | _ => none
def starL (m : M D) (ms : M (List D)) : M (List D) := bnd m fun d => bnd (lift (seqF d)) fun xs => bnd ms fun ys => ret (xs ++ ys)
theorem pa_starD {m : M D} {ms : M (List D)} {p : Pos} (he : PE X e (tD c J W m)) (hr : PA X es (tLD c J W ms)) : PA X (.Starred e p :: es) (tLD c J W (starL m ms)) := by
  refine PA.mono (StX.pa_star he hr) fun σ H Q ⟨env, S, F, g, q⟩ => ?_
  refine ⟨env, S, F, g, Fin.seq0 q fun d env1 x S1 H1 F1 A1 e1 g1 s1 r1 ap1 q => ?_⟩
  obtain ⟨r1, rfl⟩ := r1
  cases e : seqF d with
  | none =>
    simp only [lift, e, bnd] at q
    exact q.elim
  | some ds =>
    have q : Fin c J (RDs c) W S1 H1 (plus (un F1) []) σ Q (bnd ms (fun ys => ret (ds ++ ys)) env1) := by
      simpa only [lift, e, bnd] using q
    have goal : ∃ p xs, x = V.ref p ∧ (SqT X.K H1 p xs ∨ SqL X.K H1 p xs) ∧ Reps c S1 ds xs := by
      cases d <;> simp only [seqF, reduceCtorEq, Option.some.injEq] at e <;> subst e <;> simp only [Rep] at r1
      · obtain ⟨a, vs, rfl, h, z⟩ := r1
        exact ⟨a, vs, rfl, .inl (.of (g1.sub _ _ h)), z⟩
      · obtain ⟨a, vs, rfl, h, z⟩ := r1
        exact ⟨a, vs, rfl, .inr (.of (g1.sub _ _ h)), z⟩
    obtain ⟨p, xs, rfl, hx, rx⟩ := goal
    refine ⟨p, xs, rfl, hx, env1, S1, F1, g1, Fin.seq0 q.unil fun os env2 ys S2 H2 F2 A2 e2 g2 s2 r2 ap2 q => ?_⟩
    obtain ⟨r2, rfl⟩ := r2
    exact q (xs ++ ys) S2 H2 F2 [] g2 Step.refl ⟨(Reps.mono s2.sh _ _ rx).append r2, rfl⟩ apart_nil

/-! ### displays -/
def tupM (ms : M (List D)) : M D := bnd ms fun ds => if ds.length ≤ lim then ret (.tup ds) else bad
def lstM (ms : M (List D)) : M O := bnd ms fun ds => if ds.length ≤ lim then ret (.lst (ds.map .sh)) else bad
def lstO (ms : M (List O)) : M O := bnd ms fun os => if os.length ≤ lim then ret (.lst os) else bad
/-- made of shared things: an owned or a shared one -/
theorem Fin.made {σ : L2.St} {S H : Hp} {env : Env} {F : Nat → List Addr} {Q : VK} {o : O} (wo : WdOk c J) (g : Good c J σ H S env F) (q : Fin c J (RO c) W S H (un F) σ Q (.ok o, env)) : Made c S H o Q :=
  made_out wo g Step.refl q
theorem Fin.madeD {σ : L2.St} {S H : Hp} {env : Env} {F : Nat → List Addr} {Q : VK} {d : D} (wo : WdOk c J) (g : Good c J σ H S env F) (q : Fin c J (RD c) W S H (un F) σ Q (.ok d, env)) : Made c S H (.sh d) Q :=
  made_out wo g Step.refl fun v S' H' F' A' g' s' r' ap' => by
    simp only [Ro] at r'
    obtain ⟨r', rfl⟩ := r'
    exact q v S' H' F' [] g' s' ⟨r', rfl⟩ ap'
theorem pe_tupM {ms : M (List D)} {k : Nat} (wo : WdOk c J) (h : PA X es (tLD c J W ms)) : PE X (.Tuple es k pos) (tD c J W (tupM ms)) := by
  refine PE.mono (pe_tup h) fun σ H Q ⟨env, S, F, g, q⟩ => ?_
  refine ⟨env, S, F, g, Fin.seq0 q fun ds env1 xs S1 H1 F1 A1 e1 g1 s1 r1 ap1 q => ?_⟩
  obtain ⟨r1, rfl⟩ := r1
  split at q
  · rename_i hl
    refine ⟨by rw [r1.length, ← lim_eq]; exact hl, fun p hp => ?_⟩
    exact (Fin.madeD wo g1 q.unil).tup g1.sub r1 hp
  · exact q.elim
theorem pe_lstM {ms : M (List D)} (wo : WdOk c J) (h : PA X es (tLD c J W ms)) : PE X (.List es pos) (tO c J W (lstM ms)) := by
  refine PE.mono (pe_lst h) fun σ H Q ⟨env, S, F, g, q⟩ => ?_
  refine ⟨env, S, F, g, Fin.seq0 q fun ds env1 xs S1 H1 F1 A1 e1 g1 s1 r1 ap1 q => ?_⟩
  obtain ⟨r1, rfl⟩ := r1
  split at q
  · rename_i hl
    refine ⟨by rw [r1.length, ← lim_eq]; exact hl, fun p hp => ?_⟩
    exact (Fin.made wo g1 q.unil).lst g1.sub r1 hp
  · exact q.elim
/-- a new object at p over what one holds at A -/
theorem new_own {σ : L2.St} {S H : Hp} {env : Env} {F : Nat → List Addr} {A : List Addr} {p : Addr} {x : HO} (wo : WdOk c J) (g : Good c J σ H S env F) (ap : Apart A (un F)) (held : ∀ a ∈ A, ∃ o, H a = some o) (hp : H p = none) :
    Good c J σ (upd H p x) S env F ∧ Step S H (plus (un F) A) S (upd H p x) (plus (un F) (p :: A)) ∧ Apart (p :: A) (un F) ∧ ∀ a ∈ A, upd H p x a = H a := by
  have gr : Grow S H S (upd H p x) := ⟨same_upd hp, Same.refl _, fun _ _ _ => rfl⟩
  refine ⟨gr.good wo (g.sub.trans (same_upd hp)) g, ⟨Same.refl _, fun a o e n => ⟨same_upd hp a o e, rfl, fun z => ?_⟩⟩, ⟨List.nodup_cons.mpr ⟨fun z => ?_, ap.nod⟩, fun a ha z => ?_⟩, fun a ha => ?_⟩
  · rcases z with z | z
    · exact n (.inl z)
    · rcases List.mem_cons.mp z with rfl | z
      · rw [hp] at e
        cases e
      · exact n (.inr z)
  · obtain ⟨o, e⟩ := held p z
    rw [hp] at e
    cases e
  · rcases List.mem_cons.mp ha with rfl | ha
    · obtain ⟨⟨o, e⟩, _⟩ := g.held z
      rw [hp] at e
      cases e
    · exact ap.out a ha z
  · obtain ⟨o, e⟩ := held a ha
    exact upd_ne (ne_of_none e hp)
theorem pe_lstO {ms : M (List O)} (wo : WdOk c J) (h : PA X es (tL c J W ms)) : PE X (.List es pos) (tO c J W (lstO ms)) := by
  refine PE.mono (pe_lst h) fun σ H Q ⟨env, S, F, g, q⟩ => ?_
  refine ⟨env, S, F, g, Fin.seq0 q fun os env1 xs S1 H1 F1 A1 e1 g1 s1 r1 ap1 q => ?_⟩
  split at q
  · rename_i hl
    refine ⟨by rw [r1.length, ← lim_eq]; exact hl, fun p hp => ?_⟩
    obtain ⟨g2, s2, ap2, k2⟩ := new_own (x := .lst xs) wo g1 ap1 (fun a ha => (Ros.held os xs A1 r1 a ha).1) hp
    refine q (.ref p) S1 (upd H1 p (.lst xs)) F1 (p :: A1) g2 s2 ?_ ap2
    simp only [RO, Ro]
    exact ⟨p, xs, A1, rfl, rfl, upd_same, g1.sub.free hp, Ros.frame (Same.refl _) os xs A1 r1 fun a ha => ⟨k2 a ha, rfl⟩⟩
  · exact q.elim
/-- {} -/
theorem pe_dK0 (wo : WdOk c J) : PE X (.Dict [] [] pos) (tO c J W (ret (.dK [] []))) := by
  refine PE.mono pe_dnewK fun σ H Q ⟨env, S, F, g, q⟩ p hp => ?_
  obtain ⟨g2, s2, ap2, k2⟩ := new_own (x := .dK []) (A := []) wo g apart_nil (fun a h => absurd h (by simp)) hp
  refine q (.ref p) S (upd H p (.dK [])) F [p] g2 (s2.pre fun a h => plus_nil.mp h) ?_ ap2
  simp only [RO, Ro]
  exact ⟨p, [], [], rfl, rfl, by rw [upd_same]; rfl, g.sub.free hp, rfl, by simp only [Ros]; exact ⟨trivial, trivial⟩⟩
theorem pe_dT0 (wo : WdOk c J) : PE X (.Dict [] [] pos) (tO c J W (ret (.dT [] []))) := by
  refine PE.mono pe_dnewT fun σ H Q ⟨env, S, F, g, q⟩ p hp => ?_
  obtain ⟨g2, s2, ap2, k2⟩ := new_own (x := .dT []) (A := []) wo g apart_nil (fun a h => absurd h (by simp)) hp
  refine q (.ref p) S (upd H p (.dT [])) F [p] g2 (s2.pre fun a h => plus_nil.mp h) ?_ ap2
  simp only [RO, Ro]
  exact ⟨p, [], [], rfl, rfl, by rw [upd_same]; rfl, g.sub.free hp, rfl, by simp only [Ros]; exact ⟨trivial, trivial⟩⟩

/-! ### calls of built-ins -/
def callM (f : List D → Option O) (ms : M (List D)) : M O := bnd ms fun ds => lift (f ds)
theorem fin_call {σ : L2.St} {H : Hp} {Q : VK} {f : List D → Option O} {ms : M (List D)} (wo : WdOk c J) (h : tO c J W (callM f ms) σ H Q) : tCB (rL c f) (tLD c J W ms) σ H Q := by
  obtain ⟨env, S, F, g, q⟩ := h
  refine ⟨env, S, F, g, Fin.seq0 q fun ds env1 xs S1 H1 F1 A1 e1 g1 s1 r1 ap1 q => ?_⟩
  obtain ⟨r1, rfl⟩ := r1
  refine ⟨S1, ds, ?_⟩
  cases e : f ds with
  | none =>
    simp only [lift, e] at q
    exact q.elim
  | some o =>
    simp only [lift, e] at q
    exact ⟨o, g1.sub, r1, rfl, Fin.made wo g1 q.unil⟩
theorem pe_callBM {id : String} {x : Str} {p : Pos} {f : List D → Option O} {ms : M (List D)} (wo : WdOk c J) (hc : CallR X (.builtin id) (rL c f)) (hg : Gl X x) (hm : X.mg x = none) (hv : bootBuiltins x = some (.builtin id)) (ha : PA X (e :: es) (tLD c J W ms))
    (hn : x ≠ "__name__") (hdb : (x == ("__debug__" : Str)) = false) (he : starEach (e :: es) X.env = (false, eval e X.env) :: starEach es X.env) (hpl : (backTo pos (starEach es X.env)).any (·.1) = false) :
    PE X (.Call (.Name x p) (e :: es) [] pos) (tO c J W (callM f ms)) := PE.mono (pe_callB hc hg hm hv ha hn hdb he hpl) fun σ H Q h => fin_call wo h
theorem pe_callTM {T : String} {x : Str} {p : Pos} {f : List D → Option O} {ms : M (List D)} (wo : WdOk c J) (hc : CallR X (.type T) (rL c f)) (hg : Gl X x) (hm : X.mg x = none) (hv : bootBuiltins x = some (.type T)) (ha : PA X (e :: es) (tLD c J W ms))
    (hn : x ≠ "__name__") (hdb : (x == ("__debug__" : Str)) = false) (he : starEach (e :: es) X.env = (false, eval e X.env) :: starEach es X.env) (hpl : (backTo pos (starEach es X.env)).any (·.1) = false) :
    PE X (.Call (.Name x p) (e :: es) [] pos) (tO c J W (callM f ms)) := PE.mono (pe_callTy hc hg hm hv ha hn hdb he hpl) fun σ H Q h => fin_call wo h
end
end Mp
end
section
/-! Mp9: built-in functions by deep data. -/
namespace Mp
open PySem L2 PyProof.Rows
section
variable {c : Wd} {J : Hp → Prop} {W : WX} {X : Cx}
theorem Reps.one_of {S : Hp} {d : D} {xs : List V} (r : Reps c S [d] xs) : ∃ v, xs = [v] ∧ Rep c S d v := by
  simp only [Reps] at r
  obtain ⟨v, l, rfl, h, rfl⟩ := r
  exact ⟨v, rfl, h⟩
theorem Reps.two_of {S : Hp} {d e : D} {xs : List V} (r : Reps c S [d, e] xs) : ∃ v w, xs = [v, w] ∧ Rep c S d v ∧ Rep c S e w := by
  simp only [Reps] at r
  obtain ⟨v, l, rfl, h, w, l', rfl, h', rfl⟩ := r
  exact ⟨v, w, rfl, h, h'⟩
def lenF : List D → Option O
  | [.lst xs] => some (.sh (.int xs.length))
  | [.tup xs] => some (.sh (.int xs.length))
  | [.str s] => if s.length ≤ lim then some (.sh (.int s.length)) else none
  | [.dK ks _] => some (.sh (.int ks.length))
  | [.scr ns] => some (.sh (.int ns.length))
  | _ => none
theorem call_lenD1 : CallR X (.builtin "len") (fun xs H Q => ∃ d kvs, xs = [.ref d] ∧ H d = some (.dK kvs) ∧ Q (.int kvs.length) H) := by
  intro pins s σ H xs us Q I r h
  obtain ⟨d, kvs, rfl, hd, q⟩ := h
  exact call_lenD pins s σ H [.ref d] us Q I r ⟨d, kvs, rfl, hd, q⟩
theorem call_lenF (hk : X.K = c.K) : CallR X (.builtin "len") (rL c lenF) := by
  refine CallR.cases fun xs H Q ⟨S, ds, o, hs, r, e, m⟩ => ?_
  match ds, e with
  | [.lst ys], e =>
    simp only [lenF, Option.some.injEq] at e
    subst e
    obtain ⟨v, rfl, r1⟩ := r.one_of
    simp only [Rep] at r1
    obtain ⟨a, vs, rfl, h, z⟩ := r1
    refine ⟨_, call_len_seq, a, vs, rfl, .inl (.of (hs _ _ h)), ?_⟩
    rw [z.length]
    exact m.int hs
  | [.tup ys], e =>
    simp only [lenF, Option.some.injEq] at e
    subst e
    obtain ⟨v, rfl, r1⟩ := r.one_of
    simp only [Rep] at r1
    obtain ⟨a, vs, rfl, h, z⟩ := r1
    refine ⟨_, call_len_seq, a, vs, rfl, .inr (.of (hs _ _ h)), ?_⟩
    rw [z.length]
    exact m.int hs
  | [.str s], e =>
    simp only [lenF] at e
    split at e
    · rename_i hl
      cases e
      obtain ⟨v, rfl, r1⟩ := r.one_of
      simp only [Rep] at r1
      subst r1
      refine ⟨_, call_len_str, toStr s, rfl, by rw [toStr_length, ← lim_eq]; exact hl, ?_⟩
      rw [toStr_length]
      exact m.int hs
    · cases e
  | [.dK ks ds], e =>
    simp only [lenF, Option.some.injEq] at e
    subst e
    obtain ⟨v, rfl, r1⟩ := r.one_of
    simp only [Rep] at r1
    obtain ⟨a, vs, rfl, h, hl, z⟩ := r1
    refine ⟨_, call_lenD1, a, _, rfl, hs _ _ h, ?_⟩
    rw [List.length_zip, List.length_map, hl, Nat.min_self, ← hl]
    exact m.int hs
  | [.scr ns], e =>
    simp only [lenF, Option.some.injEq] at e
    subst e
    obtain ⟨v, rfl, r1⟩ := r.one_of
    simp only [Rep] at r1
    obtain ⟨a, rfl, h⟩ := r1
    refine ⟨_, call_len_seq, a, _, rfl, .inl (by rw [hk]; exact hs.seq h), ?_⟩
    rw [List.length_map]
    exact m.int hs
def absF : List D → Option O
  | [.int i] => some (.sh (.int (if i < 0 then -i else i)))
  | _ => none
theorem call_absF : CallR X (.builtin "abs") (rL c absF) := by
  refine CallR.cases fun xs H Q ⟨S, ds, o, hs, r, e, m⟩ => ?_
  match ds, e with
  | [.int i], e =>
    simp only [absF, Option.some.injEq] at e
    subst e
    obtain ⟨v, rfl, r1⟩ := r.one_of
    simp only [Rep] at r1
    subst r1
    exact ⟨_, call_abs, i, rfl, m.int hs⟩
def intF : List D → Option O
  | [.int i] => some (.sh (.int i))
  | [.bl b] => some (.sh (.int (if b then 1 else 0)))
  | _ => none
theorem call_intF : CallR X (.type "int") (rL c intF) := by
  refine CallR.cases fun xs H Q ⟨S, ds, o, hs, r, e, m⟩ => ?_
  match ds, e with
  | [.int i], e =>
    simp only [intF, Option.some.injEq] at e
    subst e
    obtain ⟨v, rfl, r1⟩ := r.one_of
    simp only [Rep] at r1
    subst r1
    exact ⟨_, call_int1, .inl ⟨i, rfl, m.int hs⟩⟩
  | [.bl b], e =>
    simp only [intF, Option.some.injEq] at e
    subst e
    obtain ⟨v, rfl, r1⟩ := r.one_of
    simp only [Rep] at r1
    subst r1
    exact ⟨_, call_int1, .inr ⟨b, rfl, m.int hs⟩⟩
def max2F : List D → Option O
  | [.int i, .int j] => some (.sh (.int (if j > i then j else i)))
  | _ => none
theorem call_max2F (hc : X.calm = true) : CallR X (.builtin "max") (rL c max2F) := by
  refine CallR.cases fun xs H Q ⟨S, ds, o, hs, r, e, m⟩ => ?_
  match ds, e with
  | [.int i, .int j], e =>
    simp only [max2F, Option.some.injEq] at e
    subst e
    obtain ⟨v, w, rfl, r1, r2⟩ := r.two_of
    simp only [Rep] at r1 r2
    subst r1
    subst r2
    exact ⟨_, call_max2 hc, i, j, rfl, m.int hs⟩
def min2F : List D → Option O
  | [.int i, .int j] => some (.sh (.int (if j < i then j else i)))
  | _ => none
theorem call_min2F (hc : X.calm = true) : CallR X (.builtin "min") (rL c min2F) := by
  refine CallR.cases fun xs H Q ⟨S, ds, o, hs, r, e, m⟩ => ?_
  match ds, e with
  | [.int i, .int j], e =>
    simp only [min2F, Option.some.injEq] at e
    subst e
    obtain ⟨v, w, rfl, r1, r2⟩ := r.two_of
    simp only [Rep] at r1 r2
    subst r1
    subst r2
    exact ⟨_, call_min2 hc, i, j, rfl, m.int hs⟩
def tupleF : List D → Option O
  | [.lst xs] => some (.sh (.tup xs))
  | [.tup xs] => some (.sh (.tup xs))
  | _ => none
theorem call_tupleF : CallR X (.type "tuple") (rL c tupleF) := by
  refine CallR.cases fun xs H Q ⟨S, ds, o, hs, r, e, m⟩ => ?_
  match ds, e with
  | [.lst ys], e =>
    simp only [tupleF, Option.some.injEq] at e
    subst e
    obtain ⟨v, rfl, r1⟩ := r.one_of
    simp only [Rep] at r1
    obtain ⟨a, vs, rfl, h, z⟩ := r1
    exact ⟨_, call_tuple_of, a, vs, rfl, .inl ⟨.of (hs _ _ h), fun l hl => m.tup hs z hl⟩⟩
  | [.tup ys], e =>
    simp only [tupleF, Option.some.injEq] at e
    subst e
    obtain ⟨v, rfl, r1⟩ := r.one_of
    have r0 := r1
    simp only [Rep] at r1
    obtain ⟨a, vs, rfl, h, z⟩ := r1
    exact ⟨_, call_tuple_of, a, vs, rfl, .inr ⟨.of (hs _ _ h), m.sh hs r0⟩⟩
def listF : List D → Option O
  | [.lst xs] => some (.lst (xs.map .sh))
  | [.tup xs] => some (.lst (xs.map .sh))
  | _ => none
theorem call_listF : CallR X (.type "list") (rL c listF) := by
  refine CallR.cases fun xs H Q ⟨S, ds, o, hs, r, e, m⟩ => ?_
  match ds, e with
  | [.lst ys], e =>
    simp only [listF, Option.some.injEq] at e
    subst e
    obtain ⟨v, rfl, r1⟩ := r.one_of
    simp only [Rep] at r1
    obtain ⟨a, vs, rfl, h, z⟩ := r1
    exact ⟨_, call_list_of, a, vs, rfl, .inl (.of (hs _ _ h)), fun l hl => m.lst hs z hl⟩
  | [.tup ys], e =>
    simp only [listF, Option.some.injEq] at e
    subst e
    obtain ⟨v, rfl, r1⟩ := r.one_of
    simp only [Rep] at r1
    obtain ⟨a, vs, rfl, h, z⟩ := r1
    exact ⟨_, call_list_of, a, vs, rfl, .inr (.of (hs _ _ h)), fun l hl => m.lst hs z hl⟩
/-! ### repr -/
def txt (s : Str) : Sg := s.cps.toList
theorem toStr_txt (s : Str) : toStr (txt s) = s := by
  cases s with
  | mk a => simp [toStr, txt]
mutual
/-- what repr can tell -/
def shwD : D → Nat → Bool
  | .non, _ => true
  | .bl _, _ => true
  | .int i, _ => decide (i.natAbs.log2 < 1920)
  | .str s, _ => s.all fun c => decide (c < 1114112)
  | .tup xs, n => match n with
    | 0 => false
    | n + 1 => shwDs xs n
  | .lst xs, n => match n with
    | 0 => false
    | n + 1 => shwDs xs n
  | .dK _ _, _ => false
  | .dT _ _, _ => false
  | .ins _ _, _ => false
  | .fn _, _ => false
  | .rng _ _, _ => false
  | .scr _, _ => false
def shwDs : List D → Nat → Bool
  | [], _ => true
  | x :: xs, n => shwD x n && shwDs xs n
end
mutual
theorem shwD_ok : ∀ (d : D) (n : Nat), shwD d n = true → okD d n = true ∧ d.py.showable = true ∧ d.py.hasDict = false
  | .non, n, h => by simp [okD, D.py, PyData.showable, PyData.hasDict]
  | .bl x, n, h => by simp [okD, D.py, PyData.showable, PyData.hasDict]
  | .int i, n, h => by
    simp only [shwD] at h
    simp only [okD, D.py, PyData.showable, PyData.hasDict]
    exact ⟨trivial, h, trivial⟩
  | .str s, n, h => by
    simp only [shwD] at h
    simp only [okD, D.py, PyData.showable, PyData.hasDict]
    exact ⟨h, trivial, trivial⟩
  | .tup xs, n, h => by
    cases n with
    | zero => simp only [shwD, Bool.false_eq_true] at h
    | succ n =>
      simp only [shwD] at h
      simp only [okD, D.py, PyData.showable, PyData.hasDict]
      exact shwDs_ok xs n h
  | .lst xs, n, h => by
    cases n with
    | zero => simp only [shwD, Bool.false_eq_true] at h
    | succ n =>
      simp only [shwD] at h
      simp only [okD, D.py, PyData.showable, PyData.hasDict]
      exact shwDs_ok xs n h
  | .dK _ _, n, h => by simp only [shwD, Bool.false_eq_true] at h
  | .dT _ _, n, h => by simp only [shwD, Bool.false_eq_true] at h
  | .ins _ _, n, h => by simp only [shwD, Bool.false_eq_true] at h
  | .fn _, n, h => by simp only [shwD, Bool.false_eq_true] at h
  | .rng _ _, n, h => by simp only [shwD, Bool.false_eq_true] at h
  | .scr _, n, h => by simp only [shwD, Bool.false_eq_true] at h
theorem shwDs_ok : ∀ (ds : List D) (n : Nat), shwDs ds n = true → okDs ds n = true ∧ PyData.showableAll (D.pys ds) = true ∧ PyData.hasDictAll (D.pys ds) = false
  | [], n, h => by simp [okDs, D.pys, PyData.showableAll, PyData.hasDictAll]
  | x :: xs, n, h => by
    simp only [shwDs, Bool.and_eq_true] at h
    obtain ⟨a1, a2, a3⟩ := shwD_ok x n h.1
    obtain ⟨b1, b2, b3⟩ := shwDs_ok xs n h.2
    simp only [okDs, D.pys, PyData.showableAll, PyData.hasDictAll]
    rw [a1, a2, a3, b1, b2, b3]
    exact ⟨rfl, rfl, rfl⟩
end
/-- a value's repr -/
def shown (d : D) : Sg := txt d.py.shown
def reprF : List D → Option O
  | [d] => if shwD d 64 && decide ((shown d).length ≤ lim) then some (.sh (.str (shown d))) else none
  | _ => none
theorem shown_len (d : D) : d.py.shown.length = (shown d).length := by
  show d.py.shown.cps.size = d.py.shown.cps.toList.length
  simp
theorem call_reprF (hk : X.K = c.K) (hG : X.A.guards = some []) (hu : X.A.units + 80 < cLine) : CallR X (.builtin "repr") (rL c reprF) := by
  intro pins s σ H xs us Q I rv ⟨S, ds, o, hs, r, e, m⟩
  match ds, e with
  | [d], e =>
    simp only [reprF] at e
    split at e
    · rename_i h
      simp only [Bool.and_eq_true, decide_eq_true_eq] at h
      obtain ⟨h, hl⟩ := h
      cases e
      obtain ⟨v, rfl, r1⟩ := r.one_of
      obtain ⟨u, rfl, ru⟩ := vals1 rv
      obtain ⟨h1, h2, h3⟩ := shwD_ok d 64 h
      have hd := okD_lay d 64 h1
      have hz : d.py.shown.length ≤ sizeLine := by rw [shown_len, ← lim_eq]; exact hl
      have fin : ∀ (t : Tok) (s' : Shared), Inv X pins σ H s' → EP X pins σ Q (.str d.py.shown t) s' := fun t s' I' => by
        have q := m.str hs
        unfold shown at q
        rw [toStr_txt] at q
        exact ⟨.str d.py.shown, H, I', ⟨t, rfl⟩, q⟩
      have dp : Dp X.K H v d.py := by rw [hk]; exact Rep.dp hs d v 64 h1 r1
      obtain ⟨as, rd⟩ := Dp.reads I d.py v u dp ru
      have big : ∀ a, u = .ref a → wpAny (model X.prog X.w) X.A (call (.builtin "repr") [u]) (EP X pins σ Q) X.xe s := fun a e => by
        subst e
        exact PySem.repr_of_reads' rd h2 (PyData.noDict_hsm h3) hG (by have := hd.2; omega) (fun b o q => q) (fun h' t tk k => fin t _ (I.kept (t' := tk) k)) hz
      cases d <;> simp only [Rep] at r1
      · subst r1
        cases (show u = Value.none from ru)
        exact PySem.P.repr_of_none (fin _ _ (I.tok _))
      · subst r1
        cases (show u = Value.bool _ from ru)
        exact PySem.P.repr_of_bool (fin _ _ (I.tok _))
      · subst r1
        obtain ⟨t, rfl⟩ := ru
        simp only [D.py, PyData.showable, decide_eq_true_eq] at h2
        exact PySem.P.repr_of_int h2 (fin _ _ (I.tok _))
      · subst r1
        obtain ⟨t, rfl⟩ := ru
        exact PySem.P.repr_of_str (fin _ _ (I.tok _)) hz
      · obtain ⟨a, vs, rfl, _⟩ := r1
        exact big a ru
      · obtain ⟨a, vs, rfl, _⟩ := r1
        exact big a ru
      all_goals simp only [shwD, Bool.false_eq_true] at h
    · cases e
end
end Mp
end
section
/-! Mp10: subscripts, slices, isinstance. -/
namespace Mp
open PySem L2 PyProof.Rows
section
variable {c : Wd} {J : Hp → Prop} {W : WX} {X : Cx} {S H : Hp} {σ : L2.St} {env : Env} {F : Nat → List Addr}
theorem IxR.cases {r' : R2} (k : ∀ x y H Q, r' x y H Q → ∃ r, IxR X r ∧ r x y H Q) : IxR X r' := by
  intro value slice pins s σ H x y v u Q I rx ry q hs
  obtain ⟨r, h, q'⟩ := k _ _ _ _ q
  exact h value slice pins s σ H x y v u Q I rx ry q' hs
theorem DGet.isD {H : Hp} {a : Addr} {y : V} {o : Option V} (g : DGet H a y o) : IsD H a := by
  rcases g with ⟨kvs, k, h, _⟩ | ⟨kvs, k, b, h, _⟩
  · exact .inl ⟨kvs, h⟩
  · exact .inr ⟨kvs, h⟩
theorem ix_dict (hu : X.A.units + 1 < cLine) : IxR X (fun x y H Q => ∃ a v, x = .ref a ∧ DGet H a y (some v) ∧ Q v H) := by
  intro value slice pins s σ H x y v u Q I rx ry ⟨a, w, e, g, q⟩ hs
  subst e
  cases rx
  exact tail_any (isD_at I (DGet.isD g)).1 PySem.F.slot_dict_getitem.lookup (d_getItem hu I g ry fun w' s' I' rw' => ⟨w, H, I', rw', q⟩) hs
/-- an item -/
def ixF : D → D → Option D
  | .lst xs, .int i => atI xs i
  | .tup xs, .int i => atI xs i
  | .str s, .int i => if s.length ≤ lim then (atI s i).map fun x => .str [x] else none
  | a, b => match getF a b with
    | some (some d) => some d
    | _ => none
theorem atI_rep {S : Hp} {ds : List D} {vs : List V} {i : Int} {d : D} (r : Reps c S ds vs) (h : atI ds i = some d) : ∃ v, atI vs i = some v ∧ Rep c S d v := by
  unfold atI at h ⊢
  rw [r.length]
  cases e : ixN ds.length i with
  | none => rw [e] at h; cases h
  | some j =>
    rw [e] at h
    exact r.get (show ds[j]? = some d from h)
theorem ix_road (hu : X.A.units + 1 < cLine) : IxR X (fun x y H Q => ∃ S da db d, Same S H ∧ Rep c S da x ∧ Rep c S db y ∧ ixF da db = some d ∧ (∀ v, Rep c S d v → Q v H)) := by
  refine IxR.cases fun x y H Q ⟨S, da, db, d, hs, ra, rb, e, q⟩ => ?_
  have dicts : getF da db = some (some d) → ∃ r, IxR X r ∧ r x y H Q := fun h => by
    obtain ⟨p, o, rfl, g, v, rfl, rv⟩ := getF_get hs h ra rb
    exact ⟨_, ix_dict hu, p, v, rfl, g, q v rv⟩
  have dict2 : (match getF da db with
    | some (some d) => some d
    | _ => none) = some d → getF da db = some (some d) := fun h => by
    cases e2 : getF da db with
    | none => rw [e2] at h; cases h
    | some o =>
      cases o with
      | none => rw [e2] at h; cases h
      | some d' =>
        rw [e2] at h
        rw [Option.some.inj h]
  cases da with
  | lst xs =>
    cases db <;> simp only [ixF, getF, reduceCtorEq] at e
    simp only [Rep] at ra rb
    obtain ⟨a, vs, rfl, h, z⟩ := ra
    obtain ⟨v, h1, h2⟩ := atI_rep z e
    exact ⟨_, ix_list, a, vs, _, v, rfl, rb, .of (hs _ _ h), h1, q v h2⟩
  | tup xs =>
    cases db <;> simp only [ixF, getF, reduceCtorEq] at e
    simp only [Rep] at ra rb
    obtain ⟨a, vs, rfl, h, z⟩ := ra
    obtain ⟨v, h1, h2⟩ := atI_rep z e
    exact ⟨_, ix_tup, a, vs, _, v, rfl, rb, .of (hs _ _ h), h1, q v h2⟩
  | str s =>
    cases db <;> simp only [ixF, getF, reduceCtorEq] at e
    split at e
    · rename_i i hl
      obtain ⟨x, h1, rfl⟩ := Option.map_eq_some_iff.mp e
      simp only [Rep] at ra rb
      exact ⟨_, ix_str, toStr s, i, x, ra, rb, by rw [toStr_length, ← lim_eq]; exact hl, by simpa [toStr] using h1, q _ (by simp only [Rep]; rfl)⟩
    · cases e
  | dK ks vs =>
    have e : (match getF (.dK ks vs) db with
      | some (some d) => some d
      | _ => none) = some d := by
      cases db <;> exact e
    exact dicts (dict2 e)
  | dT ks vs =>
    have e : (match getF (.dT ks vs) db with
      | some (some d) => some d
      | _ => none) = some d := by
      cases db <;> exact e
    exact dicts (dict2 e)
  | _ => cases db <;> simp only [ixF, getF, reduceCtorEq] at e
def ixM (ma mb : M D) : M D := bnd ma fun a => bnd mb fun b => lift (ixF a b)
theorem pe_ixM {a b : Expr} {ma mb : M D} {pos : Pos} (hu : X.A.units + 1 < cLine) (ha : PE X a (tD c J W ma)) (hb : PE X b (tD c J W mb)) (hp : PlainIx b) : PE X (.Subscript a b pos) (tD c J W (ixM ma mb)) := by
  refine PE.mono (pe_ix (ix_road (c := c) hu) ha hb hp) fun σ H Q h => ?_
  refine two (ta := tD c J W ma) (tb := tD c J W mb) (fun z => z) (fun z => z) h fun da db x y env S H F g ra rb q => ?_
  refine ⟨S, da, db, ?_⟩
  cases e : ixF da db with
  | none =>
    simp only [lift, e] at q
    exact q.elim
  | some d =>
    simp only [lift, e] at q
    exact ⟨d, g.sub, ra, rb, rfl, fun v r => Fin.okD g q r⟩
/-! ### an item of what a name holds -/
def itemO : O → D → Option O
  | .lst xs, .int i => atI xs i
  | .dK ks xs, b => match keyD b with
    | some k => dget ks xs k
    | none => none
  | .dT ks xs, .tup ys => match keysD ys with
    | some k => dget ks xs k
    | none => none
  | .sh a, b => (ixF a b).map .sh
  | _, _ => none
theorem Ros.get {S H : Hp} : ∀ {os : List O} {vs : List V} {A : List Addr} {i : Nat} {o : O}, Ros c S H os vs A → os[i]? = some o → ∃ v B, vs[i]? = some v ∧ Ro c S H o v B
  | [], vs, A, i, o, r, h => by simp at h
  | x :: xs, vs, A, 0, o, r, h => by
    simp only [Ros] at r
    obtain ⟨v, l, A1, A2, rfl, rfl, p, z⟩ := r
    simp at h
    subst h
    exact ⟨v, A1, rfl, p⟩
  | x :: xs, vs, A, i + 1, o, r, h => by
    simp only [Ros] at r
    obtain ⟨v, l, A1, A2, rfl, rfl, p, z⟩ := r
    simpa using Ros.get z (by simpa using h)
theorem dget_ros {S H : Hp} {κ : Type} [DecidableEq κ] (x : κ) : ∀ (ks : List κ) (os : List O) (vs : List V) (A : List Addr), Ros c S H os vs A → ∀ o, dget ks os x = some o → ∃ v B, dget ks vs x = some v ∧ Ro c S H o v B
  | [], os, vs, A, h, o, e => by simp [dget] at e
  | k :: ks, [], vs, A, h, o, e => by simp [dget] at e
  | k :: ks, y :: os, vs, A, h, o, e => by
    simp only [Ros] at h
    obtain ⟨v, l, A1, A2, rfl, rfl, p, z⟩ := h
    unfold dget at e ⊢
    by_cases q : k = x
    · rw [if_pos q] at e
      cases e
      exact ⟨v, A1, by rw [if_pos q], p⟩
    · rw [if_neg q] at e
      obtain ⟨v', B, h1, h2⟩ := dget_ros x ks os l A2 z o e
      exact ⟨v', B, by rw [if_neg q]; exact h1, h2⟩
/-- the item is there, whatever holds it -/
theorem ixo_road (hu : X.A.units + 1 < cLine) : IxR X (fun x y H Q => ∃ S A o db d, Same S H ∧ Ro c S H o x A ∧ Rep c S db y ∧ itemO o db = some (.sh d) ∧ (∀ v, Rep c S d v → Q v H)) := by
  refine IxR.cases fun x y H Q ⟨S, A, o, db, d, hs, ra, rb, e, q⟩ => ?_
  cases o with
  | sh a =>
    simp only [itemO] at e
    obtain ⟨d', h1, h2⟩ := Option.map_eq_some_iff.mp e
    cases h2
    simp only [Ro] at ra
    exact ⟨_, ix_road (c := c) hu, S, a, db, d, hs, ra.1, rb, h1, q⟩
  | lst xs =>
    cases db <;> simp only [itemO, reduceCtorEq] at e
    rename_i i
    simp only [Ro] at ra
    simp only [Rep] at rb
    obtain ⟨a, vs, B, rfl, rfl, h, hn, z⟩ := ra
    unfold atI at e
    cases e2 : ixN xs.length i with
    | none => rw [e2] at e; cases e
    | some j =>
      rw [e2] at e
      obtain ⟨v, B', h1, h2⟩ := Ros.get z (show xs[j]? = some (.sh d) from e)
      simp only [Ro] at h2
      refine ⟨_, ix_list, a, vs, i, v, rfl, rb, .of h, ?_, q v h2.1⟩
      unfold atI
      rw [z.length, e2]
      exact h1
  | dK ks xs =>
    simp only [itemO] at e
    cases hk : keyD db with
    | none => rw [hk] at e; cases e
    | some k =>
      rw [hk] at e
      simp only [Ro] at ra
      obtain ⟨a, vs, B, rfl, rfl, h, hn, hl, z⟩ := ra
      obtain ⟨v, B', h1, h2⟩ := dget_ros k ks xs vs B z _ e
      simp only [Ro] at h2
      exact ⟨_, ix_dict hu, a, v, rfl, .inl ⟨_, k.key, .inl h, keyD_rep hk rb, by rw [valV_zip Kb.key (fun _ _ => Kb.key_inj) k ks vs, h1]⟩, q v h2.1⟩
  | dT ks xs =>
    cases db <;> simp only [itemO, reduceCtorEq] at e
    rename_i ys
    cases hk : keysD ys with
    | none => rw [hk] at e; cases e
    | some k =>
      rw [hk] at e
      simp only [Ro] at ra
      simp only [Rep] at rb
      obtain ⟨a, vs, B, rfl, rfl, h, hn, hl, z⟩ := ra
      obtain ⟨b, ws, rfl, hb, rw'⟩ := rb
      obtain ⟨v, B', h1, h2⟩ := dget_ros k ks xs vs B z _ e
      simp only [Ro] at h2
      exact ⟨_, ix_dict hu, a, v, rfl, .inr ⟨_, k.map Kb.key, b, .inl h, rfl, by rw [← keysD_rep hk rw']; exact hs _ _ hb, by rw [valV_zip (fun k : List Kb => k.map Kb.key) (fun _ _ => keys_inj) k ks vs, h1]⟩, q v h2.1⟩
  | ins k xs => simp only [itemO, reduceCtorEq] at e
/-- what is seen of a name, as it stands just now: data in the present heap -/
def RV (c : Wd) : RR D V := fun _ H d v A => Rep c H d v ∧ A = []
abbrev tV (c : Wd) (J : Hp → Prop) (W : WX) (m : M D) : TE := tG c J (RV c) W m
/-- the data that a name holds, looked at -/
def lookV (i : Nat) : M D := fun env => match env[i]? with
  | some (some o) => (.ok o.share, env)
  | _ => (.bad, env)
theorem Good.all (g : Good c J σ H S env F) {i : Nat} {o : O} {v : V} (e : env[i]? = some (some o)) (hv : σ[i]? = some (some v)) : Ro c S H o v (F i) ∧ Rep c H o.share v := by
  obtain ⟨v', e1, r⟩ := g.rep i o e
  rw [hv] at e1
  cases e1
  exact ⟨r, Ro.rep g.sub o v _ r fun a _ => rfl⟩
theorem pe_lookV {i : Nat} {x : Str} {p : Pos} (hN : X.N[i]? = some x) (hv : Vis X.env.scope x) (hd : (x == ("__debug__" : Str)) = false) (hcd : (x == ("__classdict__" : Str)) = false) : PE X (.Name x p) (tV c J W (lookV i)) := by
  refine PE.mono (pe_var hN hv hd hcd) fun σ H Q ⟨env, S, F, g, q⟩ => ?_
  unfold lookV at q
  cases e : env[i]? with
  | none => rw [e] at q; exact q.elim
  | some z =>
    cases z with
    | none => rw [e] at q; exact q.elim
    | some o =>
      rw [e] at q
      obtain ⟨v, e1, r⟩ := g.rep i o e
      exact ⟨v, e1, q v S H F [] g (Step.refl.post fun a h => plus_nil.mp h) ⟨(g.all e e1).2, rfl⟩ apart_nil⟩
/-- x[e] of a name: f looks at what is held and at the key -/
def vixM (i : Nat) (mb : M D) : M D := fun env => match env[i]? with
  | some (some _) => bnd mb (fun b env => match env[i]? with
    | some (some o) => match itemO o b with
      | some (.sh d) => (.ok d, env)
      | _ => (.bad, env)
    | _ => (.bad, env)) env
  | _ => (.bad, env)
/-- .. the item looked at -/
def vvxM (i : Nat) (mb : M D) : M D := fun env => match env[i]? with
  | some (some _) => bnd mb (fun b env => match env[i]? with
    | some (some o) => match itemO o b with
      | some it => (.ok it.share, env)
      | _ => (.bad, env)
    | _ => (.bad, env)) env
  | _ => (.bad, env)
theorem pe_vixM {i : Nat} {x : Str} {p : Pos} {b : Expr} {mb : M D} {pos : Pos} (hu : X.A.units + 1 < cLine) (hN : X.N[i]? = some x) (hv : Vis X.env.scope x) (hd : (x == ("__debug__" : Str)) = false) (hcd : (x == ("__classdict__" : Str)) = false) (hb : PE X b (tD c J W mb)) (hp : PlainIx b) :
    PE X (.Subscript (.Name x p) b pos) (tD c J W (vixM i mb)) := by
  refine PE.mono (pe_ix (ixo_road (c := c) hu) (pe_var hN hv hd hcd) hb hp) fun σ H Q ⟨env, S, F, g, q⟩ => ?_
  unfold vixM at q
  cases e : env[i]? with
  | none => rw [e] at q; exact q.elim
  | some z =>
    cases z with
    | none => rw [e] at q; exact q.elim
    | some o0 =>
      rw [e] at q
      obtain ⟨v, hv, _⟩ := g.rep i o0 e
      refine ⟨v, hv, env, S, F, g, Fin.seq0 q fun db env2 y S2 H2 F2 A2 e2 g2 s2 r2 ap2 q => ?_⟩
      obtain ⟨r2, rfl⟩ := r2
      cases e : env2[i]? with
      | none =>
        simp only [e] at q
        exact q.elim
      | some z =>
        cases z with
        | none =>
          simp only [e] at q
          exact q.elim
        | some o =>
          simp only [e] at q
          obtain ⟨r, _⟩ := g2.all e hv
          cases e3 : itemO o db with
          | none =>
            simp only [e3] at q
            exact q.elim
          | some it =>
            cases it with
            | sh d =>
              simp only [e3] at q
              exact ⟨S2, F2 i, o, db, d, g2.sub, r, r2, e3, fun v r => Fin.okD g2 q.unil r⟩
            | _ =>
              simp only [e3] at q
              exact q.elim
theorem atI_share : ∀ (xs : List O) (i : Int), atI (O.shares xs) i = (atI xs i).map O.share := fun xs i => by
  unfold atI
  rw [O.shares_map, List.length_map]
  cases ixN xs.length i with
  | none => rfl
  | some j => simp
theorem dget_share {κ : Type} [DecidableEq κ] (x : κ) : ∀ (ks : List κ) (os : List O), dget ks (O.shares os) x = (dget ks os x).map O.share
  | [], os => by simp [dget]
  | k :: ks, [] => by simp [dget, O.shares]
  | k :: ks, o :: os => by
    simp only [O.shares, dget]
    by_cases e : k = x
    · rw [if_pos e, if_pos e]; rfl
    · rw [if_neg e, if_neg e]; exact dget_share x ks os
theorem itemO_share {o it : O} {b : D} (h : itemO o b = some it) : ixF o.share b = some it.share := by
  cases o with
  | sh a =>
    simp only [itemO] at h
    obtain ⟨d, h1, rfl⟩ := Option.map_eq_some_iff.mp h
    simpa only [O.share] using h1
  | lst xs =>
    cases b <;> simp only [itemO, reduceCtorEq] at h
    simp only [O.share, ixF, atI_share, h, Option.map_some]
  | dK ks xs =>
    simp only [itemO] at h
    cases hk : keyD b with
    | none => rw [hk] at h; cases h
    | some k =>
      rw [hk] at h
      have h : dget ks xs k = some it := h
      have e : getF (O.dK ks xs).share b = some (some it.share) := by
        simp only [O.share, getF, hk, dget_share, h, Option.map_some]
      cases b <;> simp only [keyD, reduceCtorEq] at hk <;> (simp only [O.share] at e ⊢; simp only [ixF, e])
  | dT ks xs =>
    cases b <;> simp only [itemO, reduceCtorEq] at h
    rename_i ys
    cases hk : keysD ys with
    | none => rw [hk] at h; cases h
    | some k =>
      rw [hk] at h
      have h : dget ks xs k = some it := h
      have e : getF (O.dT ks xs).share (.tup ys) = some (some it.share) := by
        simp only [O.share, getF, hk, dget_share, h, Option.map_some]
      simp only [O.share] at e ⊢
      simp only [ixF, e]
  | ins k xs => simp only [itemO, reduceCtorEq] at h
theorem pe_vvxM {i : Nat} {x : Str} {p : Pos} {b : Expr} {mb : M D} {pos : Pos} (hu : X.A.units + 1 < cLine) (hN : X.N[i]? = some x) (hv : Vis X.env.scope x) (hd : (x == ("__debug__" : Str)) = false) (hcd : (x == ("__classdict__" : Str)) = false) (hb : PE X b (tD c J W mb)) (hp : PlainIx b) :
    PE X (.Subscript (.Name x p) b pos) (tV c J W (vvxM i mb)) := by
  refine PE.mono (pe_ix (ix_road (c := c) hu) (pe_var hN hv hd hcd) hb hp) fun σ H Q ⟨env, S, F, g, q⟩ => ?_
  unfold vvxM at q
  cases e : env[i]? with
  | none => rw [e] at q; exact q.elim
  | some z =>
    cases z with
    | none => rw [e] at q; exact q.elim
    | some o0 =>
      rw [e] at q
      obtain ⟨v, hv, _⟩ := g.rep i o0 e
      refine ⟨v, hv, env, S, F, g, Fin.seq0 q fun db env2 y S2 H2 F2 A2 e2 g2 s2 r2 ap2 q => ?_⟩
      obtain ⟨r2, rfl⟩ := r2
      cases e : env2[i]? with
      | none =>
        simp only [e] at q
        exact q.elim
      | some z =>
        cases z with
        | none =>
          simp only [e] at q
          exact q.elim
        | some o =>
          simp only [e] at q
          obtain ⟨_, r⟩ := g2.all e hv
          cases e3 : itemO o db with
          | none =>
            simp only [e3] at q
            exact q.elim
          | some it =>
            simp only [e3] at q
            exact ⟨H2, o.share, db, it.share, Same.refl _, r, Rep.mono g2.sub _ _ r2, itemO_share e3, fun v r => q.unil v S2 H2 F2 [] g2 (Step.refl.post fun a h => plus_nil.mp h) ⟨r, rfl⟩ apart_nil⟩
/-- a scalar that a built-in tells of what is looked at -/
def scal1 (f : D → Option D) (m : M D) : M D := bnd m fun d => lift (f d)
def lenS : D → Option D
  | .lst xs => some (.int xs.length)
  | .tup xs => some (.int xs.length)
  | .str s => if s.length ≤ lim then some (.int s.length) else none
  | .dK ks _ => some (.int ks.length)
  | .scr ns => some (.int ns.length)
  | _ => none
theorem lenS_F {d e : D} (h : lenS d = some e) : lenF [d] = some (.sh e) ∧ ∃ i, e = .int i := by
  cases d <;> simp only [lenS, reduceCtorEq, Option.some.injEq] at h
  · split at h
    · rename_i hl
      cases h
      exact ⟨by simp only [lenF]; rw [if_pos hl], _, rfl⟩
    · cases h
  all_goals (subst h; exact ⟨rfl, _, rfl⟩)
theorem pe_vlen {e : Expr} {m : M D} {x : Str} {p pos : Pos} (wo : WdOk c J) (hk : X.K = c.K) (he : PE X e (tV c J W m)) (hx : x = "len") (hg : Gl X x) (hm : X.mg x = none) (hs : starEach [e] X.env = [(false, eval e X.env)]) :
    PE X (.Call (.Name x p) [e] [] pos) (tD c J W (scal1 lenS m)) := by
  subst hx
  refine PE.mono (pe_callB (call_lenF (c := c) hk) hg hm PySem.boot_len (pa_cons he pa_nil hs) (by decide) (by decide) hs rfl) fun σ H Q ⟨env, S, F, g, q⟩ => ?_
  refine ⟨env, S, F, g, Fin.seq0 q fun d env1 y S1 H1 F1 A1 e1 g1 s1 r1 ap1 q => ?_⟩
  obtain ⟨r1, rfl⟩ := r1
  cases e2 : lenS d with
  | none =>
    simp only [lift, e2] at q
    exact q.elim
  | some n =>
    simp only [lift, e2] at q
    obtain ⟨h1, i, rfl⟩ := lenS_F e2
    refine ⟨H1, [d], .sh (.int i), Same.refl _, Reps.one r1, h1, fun v S' H' A gr hs' r nd hn => ?_⟩
    simp only [Ro] at r
    obtain ⟨r, rfl⟩ := r
    have gr' : Grow S1 H1 S1 H' := ⟨gr.h, Same.refl _, fun _ _ _ => rfl⟩
    exact q.unil v S1 H' F1 [] (gr'.good wo (g1.sub.trans gr.h) g1) (gr'.step (A := []) fun a h => absurd h (by simp)) ⟨by simp only [Rep] at r ⊢; exact r, rfl⟩ apart_nil
/-! ### slices -/
def cut {α : Type} (xs : List α) (lo hi : Option Int) : List α := (xs.drop (HT.sIx xs.length 0 lo)).take (HT.sIx xs.length xs.length hi - HT.sIx xs.length 0 lo)
def sliceF : D → Option Int → Option Int → Option O
  | .lst xs, lo, hi => some (.lst ((cut xs lo hi).map .sh))
  | .tup xs, lo, hi => some (.sh (.tup (cut xs lo hi)))
  | .str s, lo, hi => if s.length ≤ lim then some (.sh (.str (cut s lo hi))) else none
  | _, _, _ => none
theorem SlR.cases {r' : V → Option Int → Option Int → Hp → VK → Prop} (k : ∀ x lo hi H Q, r' x lo hi H Q → ∃ r, SlR X r ∧ r x lo hi H Q) : SlR X r' := by
  intro pins s σ H x v vl vu lo hi sl Q I rx hs pl pu q
  obtain ⟨r, h, q'⟩ := k _ _ _ _ _ q
  exact h pins s σ H x v vl vu lo hi sl Q I rx hs pl pu q'
theorem reps_cut {S : Hp} {ds : List D} {vs : List V} (r : Reps c S ds vs) (lo hi : Option Int) : Reps c S (cut ds lo hi) (cutV vs lo hi) := by
  unfold cut cutV
  rw [r.length]
  exact (r.drop _).take _
theorem sl_road : SlR X (fun x lo hi H Q => ∃ S d o, Same S H ∧ Rep c S d x ∧ sliceF d lo hi = some o ∧ Made c S H o Q) := by
  refine SlR.cases fun x lo hi H Q ⟨S, d, o, hs, r, e, m⟩ => ?_
  cases d with
  | str s =>
    simp only [sliceF] at e
    split at e
    · rename_i hl
      cases e
      simp only [Rep] at r
      refine ⟨_, sl_str, toStr s, r, by rw [toStr_length, ← lim_eq]; exact hl, ?_⟩
      have e2 : cutS (toStr s) lo hi = toStr (cut s lo hi) := by
        unfold cutS cut
        rw [toStr_length]
        simp [toStr]
      rw [e2]
      exact m.str hs
    · cases e
  | tup xs =>
    simp only [sliceF, Option.some.injEq] at e
    subst e
    simp only [Rep] at r
    obtain ⟨a, vs, rfl, h, z⟩ := r
    have hl := z.length
    refine ⟨_, sl_tupA, a, vs, rfl, .of (hs _ _ h), fun hw => ?_, fun _ p hp => m.tup hs (reps_cut z lo hi) hp⟩
    have e2 : cut xs lo hi = xs := by
      unfold cut
      rw [← hl, hw.1, hw.2, List.drop_zero, Nat.sub_zero, hl, List.take_length]
    refine m.sh hs ?_
    simp only [Rep, e2]
    exact ⟨a, vs, rfl, h, z⟩
  | lst xs =>
    simp only [sliceF, Option.some.injEq] at e
    subst e
    simp only [Rep] at r
    obtain ⟨a, vs, rfl, h, z⟩ := r
    exact ⟨_, sl_list, a, vs, rfl, .of (hs _ _ h), fun p hp => m.lst hs (reps_cut z lo hi) hp⟩
  | _ => simp only [sliceF, reduceCtorEq] at e
/-- an end of a slice -/
def noE : M (Option Int) := ret none
def someE (m : M D) : M (Option Int) := bnd m fun d => match d with
  | .int i => ret (some i)
  | _ => bad
abbrev tP (c : Wd) (J : Hp → Prop) (W : WX) (m : M (Option Int)) : TO := tG c J (fun _ _ o o' A => o' = o ∧ A = []) W m
theorem PO.mono {e : Option Expr} {t t' : TO} (h : PO X e t) (k : ∀ σ H Q, t' σ H Q → t σ H Q) : PO X e t' := ⟨fun pins s σ H Q I q => h.run pins s σ H Q I (k σ H Q q)⟩
theorem po_noE : PO X none (tP c J W noE) := PO.mono po_none fun σ H Q ⟨env, S, F, g, q⟩ => q none S H F [] g (Step.refl.post fun a h => plus_nil.mp h) ⟨rfl, rfl⟩ apart_nil
theorem po_someE {e : Expr} {m : M D} (h : PE X e (tD c J W m)) : PO X (some e) (tP c J W (someE m)) := by
  refine PO.mono (po_some h) fun σ H Q ⟨env, S, F, g, q⟩ => ?_
  refine ⟨env, S, F, g, Fin.seq0 q fun d env1 y S1 H1 F1 A1 e1 g1 s1 r1 ap1 q => ?_⟩
  obtain ⟨r1, rfl⟩ := r1
  cases d <;> first | exact q.elim | skip
  simp only [Rep] at r1
  exact ⟨_, r1, q.unil _ S1 H1 F1 [] g1 (Step.refl.post fun a h => plus_nil.mp h) ⟨rfl, rfl⟩ apart_nil⟩
def sliceM (m : M D) (lo hi : M (Option Int)) : M O := bnd m fun d => bnd lo fun l => bnd hi fun h => lift (sliceF d l h)
theorem pe_sliceM {e : Expr} {l h : Option Expr} {m : M D} {lo hi : M (Option Int)} {p2 pos : Pos} (wo : WdOk c J) (he : PE X e (tD c J W m)) (hl : PO X l (tP c J W lo)) (hh : PO X h (tP c J W hi)) :
    PE X (.Subscript e (.Slice l h none p2) pos) (tO c J W (sliceM m lo hi)) := by
  refine PE.mono (pe_slice (sl_road (c := c)) he hl hh) fun σ H Q ⟨env, S, F, g, q⟩ => ?_
  refine ⟨env, S, F, g, Fin.seq0 q fun d env1 x S1 H1 F1 A1 e1 g1 s1 r1 ap1 q => ?_⟩
  obtain ⟨r1, rfl⟩ := r1
  refine ⟨env1, S1, F1, g1, Fin.seq0 q.unil fun l' env2 l2 S2 H2 F2 A2 e2 g2 s2 r2 ap2 q => ?_⟩
  obtain ⟨rfl, rfl⟩ := r2
  refine ⟨env2, S2, F2, g2, Fin.seq0 q.unil fun h' env3 h3 S3 H3 F3 A3 e3 g3 s3 r3 ap3 q => ?_⟩
  obtain ⟨rfl, rfl⟩ := r3
  cases e4 : sliceF d l2 h3 with
  | none =>
    simp only [lift, e4] at q
    exact q.elim
  | some o =>
    simp only [lift, e4] at q
    exact ⟨S3, d, o, g3.sub, Rep.mono (s2.sh.trans s3.sh) _ _ r1, e4, Fin.made wo g3 q.unil⟩
/-- xs[::-1] -/
def revF : D → Option O
  | .lst xs => some (.lst (xs.reverse.map .sh))
  | _ => none
def revM (m : M D) : M O := bnd m fun d => lift (revF d)
theorem pe_revM {e : Expr} {m : M D} {k : Nat} {p1 p2 p3 pos : Pos} (wo : WdOk c J) (he : PE X e (tD c J W m)) : PE X (.Subscript e (.Slice none none (some (.UnaryOp .USub (.Constant (.int 1) k p1) p2)) p3) pos) (tO c J W (revM m)) := by
  refine PE.mono (pe_revL he) fun σ H Q ⟨env, S, F, g, q⟩ => ?_
  refine ⟨env, S, F, g, Fin.seq0 q fun d env1 x S1 H1 F1 A1 e1 g1 s1 r1 ap1 q => ?_⟩
  obtain ⟨r1, rfl⟩ := r1
  cases d <;> simp only [revF, lift] at q <;> first | exact q.elim | skip
  simp only [Rep] at r1
  obtain ⟨a, vs, rfl, h, z⟩ := r1
  exact ⟨a, vs, rfl, .of (g1.sub _ _ h), fun p hp => (Fin.made wo g1 q.unil).lst g1.sub z.reverse hp⟩
end
end Mp
end
section
/-! Mp11: isinstance. -/
namespace Mp
open PySem L2 PyProof.Rows
section
variable {c : Wd} {J : Hp → Prop} {W : WX} {X : Cx}
def tyD : D → Option String
  | .non => some "NoneType"
  | .bl _ => some "bool"
  | .int _ => some "int"
  | .str _ => some "str"
  | .tup _ => some "tuple"
  | .lst _ => some "list"
  | .dK _ _ => some "dict"
  | .dT _ _ => some "dict"
  | _ => none
def clsNames : List String := ["int", "bool", "str", "tuple", "list", "dict"]
def subT (a b : String) : Bool := a == b || (a == "bool" && b == "int")
def tyNames : List String := ["NoneType", "bool", "int", "str", "tuple", "list", "dict"]
theorem kit_table : (tyNames.all fun a => clsNames.all fun b => decide (kitB a b = some (subT a b))) = true := by decide +kernel
theorem kit_one {K : PySem.W.Frag} {a b : String} (ha : a ∈ tyNames) (hb : b ∈ clsNames) : PySem.W.kitOne K (.type a) (.type b) = some (subT a b) := by
  have h := List.all_eq_true.mp (List.all_eq_true.mp kit_table a ha) b hb
  exact kit_ty (of_decide_eq_true h)
theorem kit_any {K : PySem.W.Frag} {a : String} (ha : a ∈ tyNames) : ∀ {bs : List String}, (∀ b ∈ bs, b ∈ clsNames) → PySem.W.kitAny K (.type a) (bs.map Value.type) = some (bs.any (subT a))
  | [], _ => rfl
  | b :: bs, h => by
    have h1 := kit_one (K := K) ha (h b List.mem_cons_self)
    have h2 := kit_any (K := K) ha (bs := bs) fun b hb => h b (List.mem_cons_of_mem _ hb)
    rw [List.map_cons, List.any_cons]
    refine kitAny_cons h1 (fun e => ?_) fun e => ?_
    · rw [h2, e, Bool.false_or]
    · rw [e, Bool.true_or]
theorem tyD_mem {d : D} {t : String} (h : tyD d = some t) : t ∈ tyNames := by
  cases d <;> simp only [tyD, reduceCtorEq, Option.some.injEq] at h <;> subst h <;> simp [tyNames]
theorem tyD_tyx {K : PySem.W.Frag} {S H : Hp} {d : D} {v : V} {t : String} (hs : Same S H) (h : tyD d = some t) (r : Rep c S d v) : TyX K H v (.type t) := by
  cases d <;> simp only [tyD, reduceCtorEq, Option.some.injEq] at h <;> subst h <;> simp only [Rep] at r
  · subst r; exact .base .non
  · subst r; exact .base (.bl _)
  · subst r; exact .base (.int _)
  · subst r; exact .base (.str _)
  · obtain ⟨a, vs, rfl, q, _⟩ := r; exact .base (.tup (hs _ _ q))
  · obtain ⟨a, vs, rfl, q, _⟩ := r; exact .base (.lst (hs _ _ q))
  · obtain ⟨a, vs, rfl, q, _⟩ := r; exact .base (.dK (hs _ _ q))
  · obtain ⟨a, vs, rfl, q, _⟩ := r; exact .base (.dT (hs _ _ q))
def isiF (ts : List String) (d : D) : Option Bool := if ts.all (fun t => clsNames.contains t) then (tyD d).map fun t => ts.any (subT t) else none
def isiM (ts : List String) (m : M D) : M D := bnd m fun d => bnd (lift (isiF ts d)) fun b => ret (.bl b)
/-- a built-in class's name -/
structure TyN (X : Cx) (x : Str) (t : String) : Prop where
  g : Gl X x
  m : X.mg x = none
  v : bootBuiltins x = some (.type t)
  n : x ≠ "__name__"
  d : (x == ("__debug__" : Str)) = false
theorem isi_b {ts : List String} {d : D} {b : Bool} (h : isiF ts d = some b) : (∀ t ∈ ts, t ∈ clsNames) ∧ ∃ t, tyD d = some t ∧ b = ts.any (subT t) := by
  unfold isiF at h
  split at h
  · rename_i hc
    obtain ⟨t, h1, h2⟩ := Option.map_eq_some_iff.mp h
    refine ⟨fun t ht => ?_, t, h1, h2.symm⟩
    have := List.all_eq_true.mp hc t ht
    simpa using this
  · cases h
theorem pe_isi1 {e : Expr} {m : M D} {x y : Str} {t : String} {p p2 pos : Pos} (he : PE X e (tD c J W m)) (hx : x = "isinstance") (hg : Gl X x) (hm : X.mg x = none) (hy : TyN X y t) (hs : starEach [e, .Name y p2] X.env = [(false, eval e X.env), (false, eval (.Name y p2) X.env)]) :
    PE X (.Call (.Name x p) [e, .Name y p2] [] pos) (tD c J W (isiM [t] m)) := by
  subst hx
  refine PE.mono (pe_callB call_isi hg hm (by decide +kernel) (pa_cons he (pa_cons (pe_bltn (v := .ty t) hy.g hy.m hy.v rfl hy.n hy.d) pa_nil rfl) hs) (by decide) (by decide) hs rfl) fun σ H Q ⟨env, S, F, g, q⟩ => ?_
  refine ⟨env, S, F, g, Fin.seq0 q fun d env1 v S1 H1 F1 A1 e1 g1 s1 r1 ap1 q => ?_⟩
  obtain ⟨r1, rfl⟩ := r1
  cases e2 : isiF [t] d with
  | none =>
    simp only [lift, e2, bnd] at q
    exact q.elim
  | some b =>
    simp only [lift, e2, bnd] at q
    obtain ⟨hc, a, h1, h2⟩ := isi_b e2
    refine ⟨v, .ty t, .type a, .type t, b, rfl, .ty t, tyD_tyx g1.sub h1 r1, ?_, Fin.okD (v := V.bl b) (d := .bl b) g1 q.unil (by simp only [Rep])⟩
    rw [kit_one (tyD_mem h1) (hc t (by simp)), h2]
    simp
theorem names_pa : ∀ {ys : List Str} {ts : List String} {ps : List Pos}, (ys.length = ts.length ∧ ys.length = ps.length) → (∀ p ∈ ys.zip ts, TyN X p.1 p.2) →
    PA X ((ys.zip ps).map fun q => Expr.Name q.1 q.2) (fun σ H Q => Q (ts.map V.ty) H)
  | [], [], [], _, _ => PA.mono pa_nil fun σ H Q h => h
  | y :: ys, t :: ts, p :: ps, h, k => by
    have hy := k (y, t) (by simp)
    have ih := names_pa (ys := ys) (ts := ts) (ps := ps) ⟨by simpa using h.1, by simpa using h.2⟩ fun q hq => k q (by simp only [List.zip_cons_cons]; exact List.mem_cons_of_mem _ hq)
    exact PA.mono (pa_cons (pe_bltn (v := .ty t) hy.g hy.m hy.v rfl hy.n hy.d) ih rfl) fun σ H Q h => h
  | [], _ :: _, _, h, _ => absurd h.1 (by simp)
  | _ :: _, [], _, h, _ => absurd h.1 (by simp)
  | [], [], _ :: _, h, _ => absurd h.2 (by simp)
  | _ :: _, _ :: _, [], h, _ => absurd h.2 (by simp)
theorem paired_ty : ∀ ts : List String, Paired ClsV (ts.map V.ty) (ts.map Value.type)
  | [] => .nil
  | t :: ts => .cons (.ty t) (paired_ty ts)
theorem pe_isiN {e : Expr} {m : M D} {x : Str} {ys : List Str} {ts : List String} {ps : List Pos} {p p2 pos : Pos} {k : Nat} (hl : ys.length = ts.length ∧ ys.length = ps.length) (h1000 : ts.length ≤ 1000) (he : PE X e (tD c J W m)) (hx : x = "isinstance") (hg : Gl X x) (hm : X.mg x = none) (hy : ∀ p ∈ ys.zip ts, TyN X p.1 p.2)
    (hs : starEach [e, .Tuple ((ys.zip ps).map fun q => Expr.Name q.1 q.2) k p2] X.env = [(false, eval e X.env), (false, eval (.Tuple ((ys.zip ps).map fun q => Expr.Name q.1 q.2) k p2) X.env)]) (wo : WdOk c J) :
    PE X (.Call (.Name x p) [e, .Tuple ((ys.zip ps).map fun q => Expr.Name q.1 q.2) k p2] [] pos) (tD c J W (isiM ts m)) := by
  subst hx
  refine PE.mono (pe_callB call_isiT hg hm (by decide +kernel) (pa_cons he (pa_cons (pe_tup (names_pa hl hy)) pa_nil rfl) hs) (by decide) (by decide) hs rfl) fun σ H Q ⟨env, S, F, g, q⟩ => ?_
  refine ⟨env, S, F, g, Fin.seq0 q fun d env1 v S1 H1 F1 A1 e1 g1 s1 r1 ap1 q => ?_⟩
  obtain ⟨r1, rfl⟩ := r1
  refine ⟨by rw [List.length_map, sizeLine_eq]; omega, fun tp htp => ?_⟩
  cases e2 : isiF ts d with
  | none =>
    simp only [lift, e2, bnd] at q
    exact q.elim
  | some b =>
    simp only [lift, e2, bnd] at q
    obtain ⟨hc, a, h1, h2⟩ := isi_b e2
    have gr : Grow S1 H1 S1 (upd H1 tp (.tup (ts.map V.ty))) := ⟨same_upd htp, Same.refl _, fun _ _ _ => rfl⟩
    have g2 := gr.good wo (g1.sub.trans gr.h) g1
    have q2 := q.unil.step ((gr.step (A := []) (U := un F1) fun a h => absurd h (by simp)).post fun a h => plus_nil.mpr h)
    refine ⟨v, tp, ts.map V.ty, .type a, ts.map Value.type, b, rfl, upd_same, paired_ty ts, tyD_tyx g2.sub h1 r1, ?_, Fin.okD (v := V.bl b) (d := .bl b) g2 q2 (by simp only [Rep])⟩
    rw [kit_any (tyD_mem h1) hc, h2]
end
end Mp
end
section
/-! Mp12: statements. -/
namespace Mp
open PySem L2 PyProof.Rows
/-- how a statement ends -/
inductive Fl where
  | nx | rt (o : O) | bk | ct
/-- the slots at P are as they were -/
def Keep (P : List Nat) (σ σ' : L2.St) : Prop := ∀ i ∈ P, σ'[i]? = σ[i]?
theorem Keep.refl {P : List Nat} {σ : L2.St} : Keep P σ σ := fun _ _ => rfl
theorem Keep.trans {P : List Nat} {σ σ1 σ2 : L2.St} (a : Keep P σ σ1) (b : Keep P σ1 σ2) : Keep P σ σ2 := fun i h => (b i h).trans (a i h)
theorem Keep.set {P : List Nat} {σ : L2.St} {i : Nat} {v : Option V} (h : i ∉ P) : Keep P σ (σ.set i v) := fun j hj => List.getElem?_set_ne (fun e : i = j => h (by rw [e]; exact hj))
section
variable (c : Wd) (J : Hp → Prop) (W : WX) (P : List Nat)
def FinS (S H : Hp) (U : Uset) (D : Ends) (σ : L2.St) : Out Fl × Env → Prop
  | (.ok .nx, env') => ∀ σ' S' H' F', Keep P σ σ' → Good c J σ' H' S' env' F' → Step S H U S' H' (un F') → D.nx σ' H'
  | (.ok (.rt o), env') => ∀ v σ' S' H' F' A', Keep P σ σ' → Good c J σ' H' S' env' F' → Step S H U S' H' (plus (un F') A') → Ro c S' H' o v A' → Apart A' (un F') → D.rt v H'
  | (.ok .bk, env') => ∀ σ' S' H' F', Keep P σ σ' → Good c J σ' H' S' env' F' → Step S H U S' H' (un F') → D.bk σ' H'
  | (.ok .ct, env') => ∀ σ' S' H' F', Keep P σ σ' → Good c J σ' H' S' env' F' → Step S H U S' H' (un F') → D.ct σ' H'
  | (.ex e, env') => ∀ cls d σ' S' H' F', Keep P σ σ' → Good c J σ' H' S' env' F' → Step S H U S' H' (un F') → ExR c S' e cls d H' → W cls d σ' H'
  | (.bad, _) => False
def tS (m : M Fl) : TS := fun D σ H => ∃ env S F, Good c J σ H S env F ∧ FinS c J W P S H (un F) D σ (m env)
end
section
variable {c : Wd} {J : Hp → Prop} {W : WX} {P : List Nat} {X : Cx} {S H : Hp} {U : Uset} {σ : L2.St} {D : Ends}
theorem FinS.step {r : Out Fl × Env} (h : FinS c J W P S H U D σ r) {σ1 : L2.St} {S1 H1 : Hp} {U1 : Uset} (k : Keep P σ σ1) (s : Step S H U S1 H1 U1) : FinS c J W P S1 H1 U1 D σ1 r := by
  obtain ⟨r, env⟩ := r
  cases r with
  | ok f =>
    cases f with
    | nx => exact fun σ' S' H' F' k' g s' => h σ' S' H' F' (k.trans k') g (s.trans s')
    | rt o => exact fun v σ' S' H' F' A' k' g s' => h v σ' S' H' F' A' (k.trans k') g (s.trans s')
    | bk => exact fun σ' S' H' F' k' g s' => h σ' S' H' F' (k.trans k') g (s.trans s')
    | ct => exact fun σ' S' H' F' k' g s' => h σ' S' H' F' (k.trans k') g (s.trans s')
  | ex e => exact fun cls d σ' S' H' F' k' g s' => h cls d σ' S' H' F' (k.trans k') g (s.trans s')
  | bad => exact h
theorem FinS.unil {r : Out Fl × Env} (h : FinS c J W P S H (plus U []) D σ r) : FinS c J W P S H U D σ r := h.step Keep.refl ((Step.refl (U := plus U [])).post fun a z => .inl z)
/-- an expression, then what a statement makes of it -/
theorem FinS.seq {α β : Type} {R : RR α β} {m : M α} {f : α → M Fl} {env : Env} {F : Nat → List Addr} (q : FinS c J W P S H (un F) D σ (bnd m f env)) {Q1 : β → Hp → Prop}
    (k : ∀ a env1 b S1 H1 F1 A1, m env = (.ok a, env1) → Good c J σ H1 S1 env1 F1 → Step S H (un F) S1 H1 (plus (un F1) A1) → R S1 H1 a b A1 → Apart A1 (un F1) →
      FinS c J W P S1 H1 (plus (un F1) A1) D σ (f a env1) → Q1 b H1) : Fin c J R W S H (un F) σ Q1 (m env) := by
  unfold bnd at q
  cases e : m env with
  | mk r env1 =>
    rw [e] at q
    cases r with
    | ok a => exact fun b S1 H1 F1 A1 g1 s1 r1 ap => k a env1 b S1 H1 F1 A1 e g1 s1 r1 ap (FinS.step (r := f a env1) q Keep.refl s1)
    | ex x => exact fun cls d S' H' F' g' s' r' => q cls d σ S' H' F' Keep.refl g' s' r'
    | bad => exact q
/-! ### blocks -/
def skipM : M Fl := ret .nx
def seqM (m n : M Fl) : M Fl := bnd m fun f => match f with
  | .nx => n
  | f => ret f
theorem pss_skip : PSs X [] (tS c J W P skipM) := PSs.mono pss_nil fun D σ H ⟨env, S, F, g, q⟩ => q σ S H F Keep.refl g Step.refl
theorem pss_one' {st : Stmt} {m : M Fl} (h : PS X st (tS c J W P m)) : PSs X [st] (tS c J W P m) := pss_one h
theorem pss_seq {st : Stmt} {rest : List Stmt} {m n : M Fl} (h1 : PS X st (tS c J W P m)) (h2 : PSs X rest (tS c J W P n)) : PSs X (st :: rest) (tS c J W P (seqM m n)) := by
  refine PSs.mono (pss_cons h1 h2) fun D σ H ⟨env, S, F, g, q⟩ => ?_
  refine ⟨env, S, F, g, ?_⟩
  unfold seqM bnd at q
  cases e : m env with
  | mk r env1 =>
    rw [e] at q
    cases r with
    | ok f =>
      cases f with
      | nx => exact fun σ' S' H' F' k g' s' => ⟨env1, S', F', g', FinS.step (r := n env1) q k s'⟩
      | rt o => exact q
      | bk => exact q
      | ct => exact q
    | ex x => exact q
    | bad => exact q
theorem ps_passM {pos : Pos} : PS X (.Pass pos) (tS c J W P skipM) := PS.mono ps_pass fun D σ H ⟨env, S, F, g, q⟩ => q σ S H F Keep.refl g Step.refl
theorem ps_breakM {pos : Pos} : PS X (.Break pos) (tS c J W P (ret .bk)) := PS.mono ps_break fun D σ H ⟨env, S, F, g, q⟩ => q σ S H F Keep.refl g Step.refl
theorem ps_contM {pos : Pos} : PS X (.Continue pos) (tS c J W P (ret .ct)) := PS.mono ps_continue fun D σ H ⟨env, S, F, g, q⟩ => q σ S H F Keep.refl g Step.refl
/-! ### return, expressions -/
def retM (m : M O) : M Fl := bnd m fun o => ret (.rt o)
theorem ps_retM {e : Expr} {m : M O} {pos : Pos} (h : PE X e (tO c J W m)) : PS X (.Return (some e) pos) (tS c J W P (retM m)) := by
  refine PS.mono (ps_ret h) fun D σ H ⟨env, S, F, g, q⟩ => ?_
  exact ⟨env, S, F, g, FinS.seq q fun o env1 v S1 H1 F1 A1 e1 g1 s1 r1 ap1 q => q v σ S1 H1 F1 A1 Keep.refl g1 Step.refl r1 ap1⟩
theorem ps_retN' {pos : Pos} : PS X (.Return none pos) (tS c J W P (ret (.rt (.sh .non)))) := PS.mono ps_retN fun D σ H ⟨env, S, F, g, q⟩ =>
  q .non σ S H F [] Keep.refl g (Step.refl.post fun a h => plus_nil.mp h) (by simp only [Ro, Rep]; exact ⟨trivial, trivial⟩) apart_nil
def dropM (m : M O) : M Fl := bnd m fun _ => ret .nx
theorem ps_dropM {e : Expr} {m : M O} {pos : Pos} (h : PE X e (tO c J W m)) (hs : swapsWith e none pos.line X.env = pure false) : PS X (.Expr e pos) (tS c J W P (dropM m)) := by
  refine PS.mono (ps_expr h hs) fun D σ H ⟨env, S, F, g, q⟩ => ?_
  exact ⟨env, S, F, g, FinS.seq q fun o env1 v S1 H1 F1 A1 e1 g1 s1 r1 ap1 q => q σ S1 H1 F1 Keep.refl g1 (Step.refl.post fun a h => .inl h)⟩
/-! ### if -/
def ifM (t : M Bool) (m n : M Fl) : M Fl := bnd t fun k => if k then m else n
theorem ps_ifM {e : Expr} {a b : List Stmt} {t : M Bool} {m n : M Fl} {pos : Pos} (ht : PT X e (tB c J W t)) (ha : PSs X a (tS c J W P m)) (hb : PSs X b (tS c J W P n)) : PS X (.If e a b pos) (tS c J W P (ifM t m n)) := by
  refine PS.mono (ps_if ht ha hb) fun D σ H ⟨env, S, F, g, q⟩ => ?_
  refine ⟨env, S, F, g, FinS.seq (f := fun k => if k then m else n) q fun k env1 v S1 H1 F1 A1 e1 g1 s1 r1 ap1 q => ?_⟩
  obtain ⟨rfl, rfl⟩ := r1
  cases v with
  | true => exact iteT ⟨env1, S1, F1, g1, q.unil⟩
  | false => exact iteF ⟨env1, S1, F1, g1, q.unil⟩
/-! ### names stored -/
def putV (i : Nat) (o : O) : M Fl := fun env => if i < env.length then (.ok .nx, env.set i (some o)) else (.bad, env)
theorem put_ok {i : Nat} {o : O} {v : V} {A : List Addr} {env : Env} {F : Nat → List Addr} (hiP : i ∉ P) (g : Good c J σ H S env F) (r : Ro c S H o v A) (ap : Apart A (un F))
    (q : FinS c J W P S H (plus (un F) A) D σ (putV i o env)) : D.nx (σ.set i (some v)) H := by
  unfold putV at q
  by_cases hi : i < env.length
  · rw [if_pos hi] at q
    have g2 := g.set hi r ⟨ap.nod, fun a ha z => ap.out a ha (un_upF.mp z |>.elim (fun h => absurd h (by simp)) fun ⟨j, _, h⟩ => ⟨j, h⟩)⟩
    refine q _ S H _ (Keep.set hiP) g2 (Step.refl.post fun a h => ?_)
    rcases un_upF.mp h with h | ⟨j, _, h⟩
    · exact .inr h
    · exact .inl ⟨j, h⟩
  · rw [if_neg hi] at q
    exact q.elim
def setM (i : Nat) (m : M O) : M Fl := bnd m fun o => putV i o
theorem ps_setM {i : Nat} {x : Str} {e : Expr} {m : M O} {pos pos' : Pos} (hN : X.N.Nodup) (hi : X.N[i]? = some x) (hx : L2.Loc X.env.scope x) (hiP : i ∉ P) (he : PE X e (tO c J W m)) (hs : swapsWith e (some (.Name x pos')) pos.line X.env = pure false)
    (hf : X.fn x = true ∨ X.env.scope.names.lookup x = some .local) : PS X (.Assign [.Name x pos'] e pos) (tS c J W P (setM i m)) := by
  refine PS.mono (ps_set hN hi hx he hs hf) fun D σ H ⟨env, S, F, g, q⟩ => ?_
  exact ⟨env, S, F, g, FinS.seq q fun o env1 v S1 H1 F1 A1 e1 g1 s1 r1 ap1 q => put_ok hiP g1 r1 ap1 q⟩
/-- several names stored, from the left -/
def putsM : List Nat → List O → M Fl
  | [], [] => skipM
  | i :: is, o :: os => seqM (putV i o) (putsM is os)
  | _, _ => bad
def setsV : L2.St → List Nat → List V → L2.St
  | σ, i :: is, v :: vs => setsV (σ.set i (some v)) is vs
  | σ, _, _ => σ
theorem puts_ok : ∀ {is : List Nat} {os : List O} {vs : List V} {A : List Addr} {σ : L2.St} {S H : Hp} {env : Env} {F : Nat → List Addr}, (∀ i ∈ is, i ∉ P) → Good c J σ H S env F → Ros c S H os vs A → Apart A (un F) →
    FinS c J W P S H (plus (un F) A) D σ (putsM is os env) → D.nx (setsV σ is vs) H
  | [], [], vs, A, σ, S, H, env, F, hP, g, r, ap, q => by
    simp only [Ros] at r
    obtain ⟨rfl, rfl⟩ := r
    exact q σ S H F Keep.refl g (Step.refl.post fun a h => .inl h)
  | [], _ :: _, vs, A, σ, S, H, env, F, hP, g, r, ap, q => q.elim
  | _ :: _, [], vs, A, σ, S, H, env, F, hP, g, r, ap, q => q.elim
  | i :: is, o :: os, vs, A, σ, S, H, env, F, hP, g, r, ap, q => by
    simp only [Ros] at r
    obtain ⟨v, l, A1, A2, rfl, rfl, r1, r2⟩ := r
    have ap1 : Apart A1 (un F) := ⟨(List.nodup_append.mp ap.nod).1, fun a ha => ap.out a (List.mem_append_left _ ha)⟩
    have q : FinS c J W P S H (plus (un F) (A1 ++ A2)) D σ (seqM (putV i o) (putsM is os) env) := q
    unfold seqM bnd putV at q
    by_cases hi : i < env.length
    · rw [if_pos hi] at q
      have hiP := hP i List.mem_cons_self
      have g2 := g.set hi r1 ⟨ap1.nod, fun a ha z => ap1.out a ha (un_upF.mp z |>.elim (fun h => absurd h (by simp)) fun ⟨j, _, h⟩ => ⟨j, h⟩)⟩
      refine puts_ok (is := is) (A := A2) (fun j hj => hP j (List.mem_cons_of_mem _ hj)) g2 r2 ⟨(List.nodup_append.mp ap.nod).2.1, fun a ha z => ?_⟩ (FinS.step q (Keep.set hiP) (Step.refl.post fun a h => ?_))
      · rcases un_upF.mp z with z | ⟨j, _, z⟩
        · exact (List.nodup_append.mp ap.nod).2.2 a z a ha rfl
        · exact ap.out a (List.mem_append_right _ ha) ⟨j, z⟩
      · rcases h with h | h
        · rcases un_upF.mp h with h | ⟨j, _, h⟩
          · exact .inr (List.mem_append_left _ h)
          · exact .inl ⟨j, h⟩
        · exact .inr (List.mem_append_right _ h)
    · rw [if_neg hi] at q
      exact q.elim
/-- a, b = x, y (plain local names) -/
def parM (is : List Nat) (ms : M (List O)) : M Fl := bnd ms fun os => if os.length = is.length then putsM is os else bad
theorem ps_par2 {i j : Nat} {x y : Str} {a b : Expr} {ms : M (List O)} {px py pt : Pos} {kt k2 pt2 pos} (hc : X.calm = true) (hN : X.N.Nodup) (hi : X.N[i]? = some x) (hj : X.N[j]? = some y) (hij : i ≠ j) (hP : ∀ k ∈ [i, j], k ∉ P)
    (hx : X.env.scope.names.lookup x = some .local) (hy : X.env.scope.names.lookup y = some .local) (ha : PA X [a, b] (tL c J W ms))
    (hw : swappedStores [.Tuple [.Name x px, .Name y py] kt pt] (.Tuple [a, b] k2 pt2) X.env = pure (some [x, y])) :
    PS X (.Assign [.Tuple [.Name x px, .Name y py] kt pt] (.Tuple [a, b] k2 pt2) pos) (tS c J W P (parM [i, j] ms)) := by
  refine PS.mono (ps_par hc hN hi hj hij hx hy ha hw) fun D σ H ⟨env, S, F, g, q⟩ => ?_
  refine ⟨env, S, F, g, FinS.seq q fun os env1 vs S1 H1 F1 A1 e1 g1 s1 r1 ap1 q => ?_⟩
  split at q
  · rename_i hl
    match os, hl, q, r1 with
    | [o, p], hl, q, r1 =>
      have r0 := r1
      simp only [ROs, Ros] at r1
      obtain ⟨v, l, B1, B2, rfl, rfl, r1, w, l2, C1, C2, rfl, rfl, r2, rfl, rfl⟩ := r1
      exact ⟨v, w, rfl, puts_ok (is := [i, j]) hP g1 r0 ap1 q⟩
  · exact q.elim
/-! ### targets -/
inductive Tg where
  | nm (i : Nat)
  | tp (is : List Nat)
def bindT : Tg → Mp.D → M Fl
  | .nm i, d => putV i (.sh d)
  | .tp is, .tup ds => if ds.length = is.length then putsM is (ds.map .sh) else bad
  | .tp _, _ => bad
def gNames : List Nat → TGs
  | [] => gNil
  | i :: is => gCons (gName i) (gNames is)
def gOf (K : PySem.W.Frag) : Tg → TG
  | .nm i => gName i
  | .tp is => gTup K is.length (gNames is)
def Tg.out (P : List Nat) : Tg → Prop
  | .nm i => i ∉ P
  | .tp is => ∀ i ∈ is, i ∉ P
theorem gNames_ok : ∀ {is : List Nat} {vs : List V} {σ : L2.St} {H : Hp} {Q : L2.St → Hp → Prop}, vs.length = is.length → Q (setsV σ is vs) H → gNames is vs σ H Q
  | [], [], σ, H, Q, _, q => ⟨rfl, q⟩
  | i :: is, v :: vs, σ, H, Q, hl, q => ⟨v, vs, rfl, gNames_ok (by simpa using hl) q⟩
  | [], _ :: _, _, _, _, hl, _ => by simp at hl
  | _ :: _, [], _, _, _, hl, _ => by simp at hl
theorem tgt_ok {tg : Tg} {d : Mp.D} {v : V} {env : Env} {F : Nat → List Addr} (hP : tg.out P) (g : Good c J σ H S env F) (r : Rep c S d v) (q : FinS c J W P S H (un F) D σ (bindT tg d env)) : gOf c.K tg v σ H D.nx := by
  cases tg with
  | nm i => exact put_ok (A := []) hP g (by simp only [Ro]; exact ⟨r, trivial⟩) apart_nil (q.step Keep.refl ((Step.refl (U := un F)).post fun a h => plus_nil.mp h))
  | tp is =>
    cases d <;> first | exact q.elim | skip
    rename_i ds
    simp only [bindT] at q
    split at q
    · rename_i hl
      simp only [Rep] at r
      obtain ⟨a, vs, rfl, h, z⟩ := r
      refine ⟨a, vs, rfl, .of (g.sub _ _ h), by rw [z.length]; exact hl, gNames_ok (by rw [z.length]; exact hl) ?_⟩
      exact puts_ok (A := []) hP g (Ros.of_reps z) apart_nil (q.step Keep.refl ((Step.refl (U := un F)).post fun a h => plus_nil.mp h))
    · exact q.elim
/-- the target's syntax -/
structure TgX (X : Cx) (K : PySem.W.Frag) (e : Expr) (tg : Tg) : Prop where
  pg : PG X e (gOf K tg)
theorem tgx_nm {i : Nat} {x : Str} {pos : Pos} {K : PySem.W.Frag} (hN : X.N.Nodup) (hi : X.N[i]? = some x) (hx : L2.Loc X.env.scope x) (hf : X.fn x = true ∨ X.env.scope.names.lookup x = some .local) : TgX X K (.Name x pos) (.nm i) := ⟨pg_name hN hi hx hf⟩
theorem pgs_names (hN : X.N.Nodup) : ∀ {is : List Nat} {es : List Expr}, is.length = es.length → (∀ p ∈ is.zip es, ∃ x pos, p.2 = .Name x pos ∧ X.N[p.1]? = some x ∧ L2.Loc X.env.scope x ∧ (X.fn x = true ∨ X.env.scope.names.lookup x = some .local)) → PGs X es (gNames is)
  | [], [], _, _ => pgs_nil
  | i :: is, e :: es, hl, h => by
    obtain ⟨x, pos, rfl, h1, h2, h3⟩ := h (i, e) (by simp)
    exact pgs_cons (pg_name hN h1 h2 h3) (pgs_names hN (by simpa using hl) fun p hp => h p (by simp only [List.zip_cons_cons]; exact List.mem_cons_of_mem _ hp)) (by first | rfl | (intros; rfl))
  | [], _ :: _, hl, _ => by simp at hl
  | _ :: _, [], hl, _ => by simp at hl
/-- targets = e -/
def asgM (tg : Tg) (m : M Mp.D) : M Fl := bnd m fun d => bindT tg d
theorem ps_asgM {t e : Expr} {tg : Tg} {m : M Mp.D} {pos : Pos} (hK : X.K = c.K) (hP : tg.out P) (ht : TgX X c.K t tg) (he : PE X e (tD c J W m)) (hs : swapsWithSole [t] e pos.line X.env = pure false) (hw : swappedStores [t] e X.env = pure none) (h1 : (assignEach [t] X.env).map (fun x => x.2) = [assign t X.env]) :
    PS X (.Assign [t] e pos) (tS c J W P (asgM tg m)) := by
  refine PS.mono (ps_asg he ht.pg hs hw h1) fun D σ H ⟨env, S, F, g, q⟩ => ?_
  refine ⟨env, S, F, g, FinS.seq q fun d env1 v S1 H1 F1 A1 e1 g1 s1 r1 ap1 q => ?_⟩
  obtain ⟨r1, rfl⟩ := r1
  exact tgt_ok hP g1 r1 q.unil
end
end Mp
end
section
/-! Mp13: loops. -/
namespace Mp
open PySem L2 PyProof.Rows
/-- what is walked: the items as deep data, whatever is shared from S on -/
structure Wk (c : Wd) (S : Hp) (I : It) (ds : List Mp.D) : Prop where
  goes : ∀ i H, i < ds.length → Same S H → I.go i H
  stops : ∀ H, Same S H → I.stop ds.length H
  yields : ∀ i d S1 H x H', ds[i]? = some d → Same S S1 → Same S1 H → I.yld i H x H' → ∃ S2, Grow S1 H S2 H' ∧ Same S2 H' ∧ Rep c S2 d x
/-- an iterable's reading -/
def tI (c : Wd) (J : Hp → Prop) (W : WX) (m : M (List Mp.D)) : TI := fun σ H R =>
  ∃ env S F, Good c J σ H S env F ∧ Fin c J (fun S' _ ds (I : It) A => Wk c S' I ds ∧ A = []) W S H (un F) σ R (m env)
structure PIs (c : Wd) (J : Hp → Prop) (W : WX) (X : Cx) (tg iter : Expr) (m : M (List Mp.D)) : Prop where
  pi : PI X tg iter (tI c J W m)
theorem PI.mono {X : Cx} {tg iter : Expr} {t t' : TI} (h : PI X tg iter t) (k : ∀ σ H R, t' σ H R → t σ H R) : PI X tg iter t' := ⟨fun pins s σ H R I q => h.run pins s σ H R I (k σ H R q)⟩
/-- behind a turn -/
def onF (next : M Fl) : Fl → M Fl
  | .nx => next
  | .ct => next
  | .bk => ret .nx
  | .rt o => ret (.rt o)
def loopM (tg : Tg) (body : M Fl) : List Mp.D → M Fl
  | [] => skipM
  | d :: ds => bnd (seqM (bindT tg d) body) (onF (loopM tg body ds))
def forM (tg : Tg) (ms : M (List Mp.D)) (body : M Fl) : M Fl := bnd ms fun ds => loopM tg body ds
section
variable {c : Wd} {J : Hp → Prop} {W : WX} {P : List Nat} {X : Cx}
theorem puts_nx : ∀ {is : List Nat} {os : List O} {env : Env} {r : Out Fl} {e2 : Env}, putsM is os env = (r, e2) → r = .ok .nx ∨ r = .bad
  | [], [], env, r, e2, h => by
    cases h
    exact .inl rfl
  | [], _ :: _, env, r, e2, h => by
    cases h
    exact .inr rfl
  | _ :: _, [], env, r, e2, h => by
    cases h
    exact .inr rfl
  | i :: is, o :: os, env, r, e2, h => by
    simp only [putsM, seqM, bnd, putV] at h
    by_cases hi : i < env.length
    · rw [if_pos hi] at h
      exact puts_nx (is := is) (os := os) h
    · rw [if_neg hi] at h
      cases h
      exact .inr rfl
theorem bindT_nx {tg : Tg} {d : Mp.D} {env : Env} {r : Out Fl} {e2 : Env} (h : bindT tg d env = (r, e2)) : r = .ok .nx ∨ r = .bad := by
  cases tg with
  | nm i =>
    simp only [bindT, putV] at h
    split at h <;> cases h
    · exact .inl rfl
    · exact .inr rfl
  | tp is =>
    cases d <;> simp only [bindT] at h <;> first | (cases h; exact .inr rfl) | skip
    split at h
    · exact puts_nx h
    · cases h
      exact .inr rfl
theorem seq_nx {m n : M Fl} {k : Fl → M Fl} {env env1 : Env} (h : m env = (.ok .nx, env1)) : bnd (seqM m n) k env = bnd n k env1 := by
  simp only [bnd, seqM, h]
theorem seq_bad {m n : M Fl} {k : Fl → M Fl} {env env1 : Env} (h : m env = (.bad, env1)) : bnd (seqM m n) k env = (.bad, env1) := by
  simp only [bnd, seqM, h]
/-- a turn's body, what follows told by N -/
theorem body_turn {body next : M Fl} {S H S0 : Hp} {σ : L2.St} {env : Env} {F : Nat → List Addr} {De : Ends} (g : Good c J σ H S env F) (h0 : Same S0 S) (q : FinS c J W P S H (un F) De σ (bnd body (onF next) env)) {N : L2.St → Hp → Prop}
    (hN : ∀ σ' H', (∃ env1 S1 F1, Good c J σ' H' S1 env1 F1 ∧ Same S0 S1 ∧ FinS c J W P S1 H' (un F1) De σ' (next env1)) → N σ' H') :
    tS c J W P body { De with nx := N, ct := N, bk := De.nx } σ H := by
  refine ⟨env, S, F, g, ?_⟩
  unfold bnd at q
  cases e : body env with
  | mk r env1 =>
    rw [e] at q
    cases r with
    | bad => exact q
    | ex x => exact q
    | ok f =>
      cases f with
      | nx => exact fun σ' S' H' F' k g' s' => hN σ' H' ⟨env1, S', F', g', h0.trans s'.sh, FinS.step (r := next env1) q k s'⟩
      | ct => exact fun σ' S' H' F' k g' s' => hN σ' H' ⟨env1, S', F', g', h0.trans s'.sh, FinS.step (r := next env1) q k s'⟩
      | bk => exact q
      | rt o => exact q
theorem loop_turn {tg : Tg} {body : M Fl} {d : Mp.D} {ds : List Mp.D} {S H S0 : Hp} {σ : L2.St} {env : Env} {F : Nat → List Addr} {De : Ends} {x : V} (hP : tg.out P) (g : Good c J σ H S env F) (r : Rep c S d x) (h0 : Same S0 S)
    (q : FinS c J W P S H (un F) De σ (loopM tg body (d :: ds) env)) {N : L2.St → Hp → Prop}
    (hN : ∀ σ' H', (∃ env1 S1 F1, Good c J σ' H' S1 env1 F1 ∧ Same S0 S1 ∧ FinS c J W P S1 H' (un F1) De σ' (loopM tg body ds env1)) → N σ' H') :
    gOf c.K tg x σ H fun σ2 H2 => tS c J W P body { De with nx := N, ct := N, bk := De.nx } σ2 H2 := by
  refine tgt_ok (D := { De with nx := fun σ2 H2 => tS c J W P body { De with nx := N, ct := N, bk := De.nx } σ2 H2 }) (W := W) (P := P) hP g r ?_
  have q : FinS c J W P S H (un F) De σ (bnd (seqM (bindT tg d) body) (onF (loopM tg body ds)) env) := q
  cases e : bindT tg d env with
  | mk r1 env1 =>
    rcases bindT_nx e with rfl | rfl
    · rw [seq_nx e] at q
      exact fun σ2 S2 H2 F2 k2 g2 s2 => body_turn g2 (h0.trans s2.sh) (FinS.step q k2 s2) hN
    · rw [seq_bad e] at q
      exact q
theorem ps_forM {te iter : Expr} {body : List Stmt} {tg : Tg} {ms : M (List Mp.D)} {mb : M Fl} {pos : Pos} (wo : WdOk c J) (hp : PassesOwn (model X.prog X.w) X.A X.env X.xe) (hc : X.calm = true) (hP : tg.out P) (hi : PIs c J W X te iter ms) (ht : TgX X c.K te tg) (hb : PSs X body (tS c J W P mb))
    (hs : ∀ x, foldedSetIterable iter X.env x = pure x) : PS X (.For te iter body [] pos) (tS c J W P (forM tg ms mb)) := by
  refine PS.mono (ps_for hp hc hi.pi ht.pg hb hs) fun De σ H ⟨env, S, F, g, q⟩ => ?_
  refine ⟨env, S, F, g, FinS.seq q fun ds env1 I S1 H1 F1 A1 e1 g1 s1 r1 ap1 q => ?_⟩
  obtain ⟨w, rfl⟩ := r1
  refine ⟨fun i m σ H => m = ds.length - i ∧ i ≤ ds.length ∧ ∃ env2 S2 F2, Good c J σ H S2 env2 F2 ∧ Same S1 S2 ∧ FinS c J W P S2 H (un F2) De σ (loopM tg mb (ds.drop i) env2), ⟨ds.length, rfl, Nat.zero_le _, env1, S1, F1, g1, Same.refl _, q.unil⟩, ?_⟩
  rintro i m σ2 H2 ⟨rfl, hi, env2, S2, F2, g2, h2, q2⟩
  by_cases hlt : i < ds.length
  · refine .inr ⟨w.goes i H2 hlt (h2.trans g2.sub), fun σ' H' => ∃ env3 S3 F3, Good c J σ' H' S3 env3 F3 ∧ Same S1 S3 ∧ FinS c J W P S3 H' (un F3) De σ' (loopM tg mb (ds.drop (i + 1)) env3), fun σ' H' h => ⟨ds.length - (i + 1), by omega, rfl, hlt, h⟩, fun x H3 y => ?_⟩
    have hd : ds[i]? = some ds[i] := by simp [hlt]
    obtain ⟨S3, gr, hs3, r3⟩ := w.yields i ds[i] S2 H2 x H3 hd h2 g2.sub y
    rw [List.drop_eq_getElem_cons hlt] at q2
    have g3 := gr.good wo hs3 g2
    exact loop_turn hP g3 r3 (h2.trans gr.s) (FinS.step q2 Keep.refl ((gr.step (A := []) fun a h => absurd h (by simp)).post fun a h => .inl h)) fun σ' H' h => h
  · have e : i = ds.length := by omega
    subst e
    rw [List.drop_length] at q2
    exact .inl ⟨w.stops H2 (h2.trans g2.sub), q2 σ2 S2 H2 F2 Keep.refl g2 Step.refl⟩
/-! ### while -/
def whileM : Nat → M Bool → M Fl → M Fl
  | 0, _, _ => bad
  | n + 1, t, body => bnd t fun k => if k then bnd body (onF (whileM n t body)) else ret .nx
theorem ps_whileM {e : Expr} {body : List Stmt} {t : M Bool} {mb : M Fl} {pos : Pos} (n : Nat) (hp : PassesOwn (model X.prog X.w) X.A X.env X.xe) (ht : PT X e (tB c J W t)) (hb : PSs X body (tS c J W P mb)) : PS X (.While e body [] pos) (tS c J W P (whileM n t mb)) := by
  refine PS.mono (ps_while hp ht hb) fun De σ H ⟨env, S, F, g, q⟩ => ?_
  refine ⟨fun m σ H => ∃ env S F, Good c J σ H S env F ∧ FinS c J W P S H (un F) De σ (whileM m t mb env), ⟨n, env, S, F, g, q⟩, ?_⟩
  rintro m σ1 H1 ⟨env1, S1, F1, g1, q1⟩
  cases m with
  | zero => exact q1.elim
  | succ m =>
    refine ⟨env1, S1, F1, g1, FinS.seq (f := fun k => if k then bnd mb (onF (whileM m t mb)) else ret .nx) q1 fun k env2 v S2 H2 F2 A2 e2 g2 s2 r2 ap2 q => ?_⟩
    obtain ⟨rfl, rfl⟩ := r2
    cases v with
    | false => exact iteF (q.unil σ1 S2 H2 F2 Keep.refl g2 Step.refl)
    | true =>
      refine iteT ⟨fun σ' H' => ∃ env S F, Good c J σ' H' S env F ∧ FinS c J W P S H' (un F) De σ' (whileM m t mb env), fun σ' H' h => ⟨m, Nat.lt_succ_self m, h⟩, ?_⟩
      exact body_turn (S0 := S2) g2 (Same.refl _) q.unil fun σ' H' ⟨env, S, F, g, _, q⟩ => ⟨env, S, F, g, q⟩
end
end Mp
end
section
/-! Mp14: zip of two sequences, each a list or a tuple. -/
namespace Mp
open PySem PySem.Spec PyProof.Rows L2
/-- the items at a, in a list (k = false) or a tuple -/
def SqA (k : Bool) (h : Heap) (a : Addr) (us : Array Value) : Prop := if k then h.IsTuple a us else h.IsList a us
/-- its iterator at turn n -/
def ItA (k : Bool) (h : Heap) (it a : Addr) (n : Nat) : Prop := if k then h.IsTupleIter it a n else h.IsListIter it a n
def SqK (k : Bool) (K : PySem.W.Frag) (H : Hp) (a : Addr) (vs : List V) : Prop := if k then SqT K H a vs else SqL K H a vs
section
variable {k : Bool} {h h' : Heap} {a b it : Addr} {us : Array Value} {n : Nat}
theorem SqA.ext (x : SqA k h a us) (hs : Heap.ExtBut b h h') (e : a ≠ b) : SqA k h' a us := by
  cases k
  · exact Heap.IsList.extBut x hs e
  · exact Heap.IsTuple.extBut x hs e
theorem SqA.psh (x : SqA k h a us) (o : Obj) : SqA k (h.push o) a us := by
  cases k
  · exact Heap.IsList.push x o
  · exact Heap.IsTuple.push x o
theorem SqA.lt (x : SqA k h a us) : a < h.objs.size := by
  cases k <;> (obtain ⟨o, e, _⟩ := x; exact Heap.lt_size e)
theorem ItA.ext (x : ItA k h it a n) (hs : Heap.ExtBut b h h') (e : it ≠ b) : ItA k h' it a n := by
  cases k
  · exact Heap.IsListIter.extBut x hs e
  · exact Heap.IsTupleIter.extBut x hs e
theorem ItA.moved (x : ItA k h it a n) (e : ∀ o, h.get? it = some o → h'.get? it = some o) : ItA k h' it a n := by
  cases k
  · exact Heap.IsListIter.at x e
  · exact Heap.IsTupleIter.at x e
theorem ItA.obj (x : ItA k h it a n) : ∃ o vs, h.get? it = some o ∧ o.data = .fields vs := by
  cases k <;> (obtain ⟨o, e, _, d⟩ := x; exact ⟨o, _, e, d⟩)
end
section
variable {prog : Program} {w : World} {A : Around} {E : Value → Shared → Prop} {s : Shared} {k k2 : Bool}
theorem next_item {it l : Addr} {i : Nat} {us : Array Value} {x : Value} {Q : Value → Shared → Prop} (hi : ItA k s.heap it l i) (hu : SqA k s.heap l us) (hx : us[i]? = some x)
    (q : ∀ h', ItA k h' it l (i + 1) → Heap.SameBut it s.heap h' → Q x { s with heap := h' }) : wpAny (model prog w) A (Builtin.SmallTypes.nextOf (.ref it)) Q E s := by
  cases k
  · exact wpAny_nextOf_list_item hi hu hx q
  · exact RZ.nextOf_tuple_item hi hu hx q
theorem next_end {it l : Addr} {i : Nat} {us : Array Value} {Q : Value → Shared → Prop} (hh : A.handled = none) (hi : ItA k s.heap it l i) (hu : SqA k s.heap l us) (hx : us[i]? = none)
    (q : ∀ h' e, Heap.ExtBut it s.heap h' → (∃ o, h'.get? e = some o ∧ o.cls = .type "StopIteration") → E (.ref e) { s with heap := h' }) : wpAny (model prog w) A (Builtin.SmallTypes.nextOf (.ref it)) Q E s := by
  cases k
  · exact wpAny_nextOf_list_end hh hi hu hx q
  · exact RZ.nextOf_tuple_end hh hi hu hx q
theorem iter_sq {l : Addr} {us : Array Value} {Q : Value → Shared → Prop} (hu : SqA k s.heap l us)
    (q : Q (.ref s.heap.objs.size) { s with heap := s.heap.push { cls := .type (if k then "tuple_iterator" else "list_iterator"), data := .fields #[.ref l, .int 0 0] } }) : wpAny (model prog w) A (pyIter (.ref l)) Q E s := by
  cases k
  · exact wpAny_pyIter_list hu q
  · exact wpAny_pyIter_tuple hu q
/-- what a zip object is made of: the zip at z, its iterators' tuple at tI, its own tuple at tO -/
structure ZpA (k k2 : Bool) (h : Heap) (z tI tO i1 i2 a b : Addr) (n : Nat) (f0 : Value) : Prop where
  z0 : IsZip h z tI tO f0
  t0 : IsPair h tI (.ref i1) (.ref i2)
  o0 : ∃ x y, IsPair h tO x y
  m1 : ItA k h i1 a n
  m2 : ItA k2 h i2 b n
variable {z tI tO i1 i2 a b : Addr} {n : Nat} {us ws : Array Value} {x y : Value}
theorem zip_item {Q : Value → Shared → Prop} (D : ZipApart z tI tO i1 i2 a b) (Z : ZpA k k2 s.heap z tI tO i1 i2 a b n .none) (hu : SqA k s.heap a us) (hw : SqA k2 s.heap b ws) (hx : us[n]? = some x) (hy : ws[n]? = some y)
    (q : ∀ h', ZpA k k2 h' z tI tO i1 i2 a b (n + 1) (rawInt s.heap.objs.size) → IsPair h' s.heap.objs.size x y → h'.objs.size = s.heap.objs.size + 1 →
      (∀ c o, c ≠ z → c ≠ tO → c ≠ i1 → c ≠ i2 → s.heap.get? c = some o → h'.get? c = some o) → Q (.ref s.heap.objs.size) { s with heap := h' }) :
    wpAny (model prog w) A (Builtin.«zip.__next__» ⟨[.ref z], []⟩) (fun fin s' => ∃ v, fin = .done (.ret v) ∧ Q v s') E s := by
  obtain ⟨z0, t0, ⟨p, r, o0⟩, m1, m2⟩ := Z
  show wpAny _ _ (field (.ref z) 2 >>= _) _ _ s
  refine wpAny_bind (wpAny_field z0 rfl (x := Value.bool false) rfl ?_)
  show wpAny _ _ (field (.ref z) 3 >>= _) _ _ s
  refine wpAny_bind (wpAny_field z0 rfl (x := Value.ref tI) rfl ?_)
  refine wpAny_bind (wpAny_seqItems t0 rfl ?_)
  show wpAny _ _ (Builtin.SmallTypes.ownedTupleIsFree (.ref z) >>= _) _ _ s
  refine wpAny_bind ?_
  unfold Builtin.SmallTypes.ownedTupleIsFree
  refine wpAny_bind (wpAny_field z0 rfl (x := Value.none) rfl (wpAny_pure ?_))
  simp only [if_true]
  refine wpAny_bind (wpAny_rule ?_)
  refine wpAny_bind (wpAny_field z0 rfl (x := Value.ref tO) rfl ?_)
  refine wpAny_bind (wpAny_setField_rec z0 (by simp) fun h1 z1 s1 => ?_)
  replace z1 : IsZip h1 z tI tO .ellipsis := z1
  refine wpAny_bind ?_
  simp only [List.zipIdx_cons, List.zipIdx_nil, List.forIn_cons, List.forIn_nil]
  -- the first one
  refine wpAny_bind (wpAny_bind (wpAny_onRaise ?_))
  show wpAny _ _ (Builtin.SmallTypes.nextOf (.ref i1) >>= _) _ _ _
  refine wpAny_bind (next_item (m1.ext s1.extBut D.i1z) (hu.ext s1.extBut D.l1z) hx fun h2 m12 s2 => wpAny_pure ?_)
  have o2 : IsPair h2 tO p r := s2.extBut _ _ D.TOi1 (s1.extBut _ _ D.TOz o0)
  refine wpAny_bind (wpAny_seqItems o2 rfl ?_)
  refine wpAny_bind (wpAny_updateSeq_pair o2 fun h3 o3 s3 => ?_)
  replace o3 : IsPair h3 tO x r := o3
  refine wpAny_bind (wpAny_letGo (wpAny_pure ?_))
  -- the second one
  refine wpAny_bind (wpAny_bind (wpAny_onRaise ?_))
  show wpAny _ _ (Builtin.SmallTypes.nextOf (.ref i2) >>= _) _ _ _
  refine wpAny_bind (next_item (((m2.ext s1.extBut D.i2z).ext s2.extBut D.i12.symm).ext s3.extBut D.TOi2.symm) (((hw.ext s1.extBut D.l2z).ext s2.extBut D.l2i1).ext s3.extBut D.l2TO) hy fun h4 m24 s4 => wpAny_pure ?_)
  have o4 : IsPair h4 tO x r := s4.extBut _ _ D.TOi2 o3
  refine wpAny_bind (wpAny_seqItems o4 rfl ?_)
  refine wpAny_bind (wpAny_updateSeq_pair o4 fun h5 o5 s5 => ?_)
  replace o5 : IsPair h5 tO x y := o5
  refine wpAny_bind (wpAny_letGo (wpAny_pure (wpAny_pure ?_)))
  refine wpAny_bind (wpAny_seqItems o5 rfl ?_)
  refine wpAny_bind (wpAny_newTuple ?_)
  have e5 : h5.objs.size = s.heap.objs.size := by rw [s5.1, s4.1, s3.1, s2.1, s1.1]
  have z5 : IsZip h5 z tI tO .ellipsis := s5.extBut _ _ D.TOz.symm (s4.extBut _ _ D.i2z.symm (s3.extBut _ _ D.TOz.symm (s2.extBut _ _ D.i1z.symm z1)))
  have k5 : ∀ c o, c ≠ z → c ≠ tO → c ≠ i1 → c ≠ i2 → s.heap.get? c = some o → h5.get? c = some o := fun c o c1 c2 c3 c4 e =>
    s5.extBut _ _ c2 (s4.extBut _ _ c4 (s3.extBut _ _ c2 (s2.extBut _ _ c3 (s1.extBut _ _ c1 e))))
  have m15 : ItA k h5 i1 a (n + 1) := ((m12.ext s3.extBut D.TOi1.symm).ext s4.extBut D.i12).ext s5.extBut D.TOi1.symm
  have m25 : ItA k2 h5 i2 b (n + 1) := m24.ext s5.extBut D.TOi2.symm
  have zl : z < h5.objs.size := Heap.lt_size z5
  show wpAny _ _ (Builtin.SmallTypes.ownedTupleHandOut (.ref z) (.ref h5.objs.size) >>= _) _ _ _
  refine wpAny_bind ?_
  unfold Builtin.SmallTypes.ownedTupleHandOut
  have z6 : IsZip (h5.push { cls := .type "tuple", data := .seq #[x, y] }) z tI tO .ellipsis := Heap.get?_push_of_some _ z5
  refine wpAny_bind (wpAny_setField_rec z6 (by simp) fun h7 z7 s7 => ?_)
  replace z7 : IsZip h7 z tI tO (rawInt h5.objs.size) := z7
  refine wpAny_setField_rec z7 (by simp) fun h8 z8 s8 => ?_
  replace z8 : IsZip h8 z tI tO (rawInt h5.objs.size) := z8
  have up : ∀ c o, c ≠ z → h5.get? c = some o → h8.get? c = some o := fun c o c1 e => s8.extBut _ _ c1 (s7.extBut _ _ c1 (Heap.get?_push_of_some _ e))
  have t8 : IsPair h8 h5.objs.size x y := s8.extBut _ _ (Nat.ne_of_gt zl) (s7.extBut _ _ (Nat.ne_of_gt zl) (Heap.get?_push_size _ rfl))
  have e8 : h8.objs.size = h5.objs.size + 1 := by rw [s8.1, s7.1, Heap.size_push]
  rw [e5] at z8 t8 e8
  refine wpAny_pure ⟨_, rfl, ?_⟩
  show Q (.ref h5.objs.size) _
  rw [e5]
  have t5 : IsPair h5 tI (.ref i1) (.ref i2) := k5 _ _ D.TIz D.TITO D.TIi1 D.TIi2 t0
  exact q h8 ⟨z8, up _ _ D.TIz t5, ⟨x, y, up _ _ D.TOz o5⟩, m15.moved fun o e => up _ o D.i1z e, m25.moved fun o e => up _ o D.i2z e⟩ t8 e8 fun c o c1 c2 c3 c4 e => up c o c1 (k5 c o c1 c2 c3 c4 e)
theorem zip_end {Q : PySem.Fin → Shared → Prop} (hh : A.handled = none) (D : ZipApart z tI tO i1 i2 a b) (Z : ZpA k k2 s.heap z tI tO i1 i2 a b n .none) (hu : SqA k s.heap a us) (hw : SqA k2 s.heap b ws) (he : us[n]? = none ∨ ws[n]? = none)
    (q : ∀ h' e, (∀ c o, c ≠ z → c ≠ tO → c ≠ i1 → c ≠ i2 → s.heap.get? c = some o → h'.get? c = some o) → (∃ o, h'.get? e = some o ∧ o.cls = .type "StopIteration") → E (.ref e) { s with heap := h' }) :
    wpAny (model prog w) A (Builtin.«zip.__next__» ⟨[.ref z], []⟩) Q E s := by
  obtain ⟨z0, t0, ⟨p, r, o0⟩, m1, m2⟩ := Z
  show wpAny _ _ (field (.ref z) 2 >>= _) _ _ s
  refine wpAny_bind (wpAny_field z0 rfl (x := Value.bool false) rfl ?_)
  show wpAny _ _ (field (.ref z) 3 >>= _) _ _ s
  refine wpAny_bind (wpAny_field z0 rfl (x := Value.ref tI) rfl ?_)
  refine wpAny_bind (wpAny_seqItems t0 rfl ?_)
  show wpAny _ _ (Builtin.SmallTypes.ownedTupleIsFree (.ref z) >>= _) _ _ s
  refine wpAny_bind ?_
  unfold Builtin.SmallTypes.ownedTupleIsFree
  refine wpAny_bind (wpAny_field z0 rfl (x := Value.none) rfl (wpAny_pure ?_))
  simp only [if_true]
  refine wpAny_bind (wpAny_rule ?_)
  refine wpAny_bind (wpAny_field z0 rfl (x := Value.ref tO) rfl ?_)
  refine wpAny_bind (wpAny_setField_rec z0 (by simp) fun h1 z1 s1 => ?_)
  replace z1 : IsZip h1 z tI tO .ellipsis := z1
  refine wpAny_bind ?_
  simp only [List.zipIdx_cons, List.zipIdx_nil, List.forIn_cons, List.forIn_nil]
  refine wpAny_bind (wpAny_bind (wpAny_onRaise ?_))
  show wpAny _ _ (Builtin.SmallTypes.nextOf (.ref i1) >>= _) _ _ _
  cases hx : us[n]? with
  | none =>
    refine wpAny_bind (next_end hh (m1.ext s1.extBut D.i1z) (hu.ext s1.extBut D.l1z) hx fun h2 e s2 ⟨oe, ho, hc⟩ => ?_)
    have z2 : IsZip h2 z tI tO .ellipsis := s2 _ _ D.i1z.symm z1
    have ez : e ≠ z := fun x => by subst x; rw [z2] at ho; cases ho; simp at hc
    refine wpAny_setField_rec z2 (by simp) fun h3 _ s3 => q h3 e (fun c o c1 _ c3 _ x => s3.extBut _ _ c1 (s2 _ _ c3 (s1.extBut _ _ c1 x))) ⟨oe, s3.extBut _ _ ez ho, hc⟩
  | some x =>
    have hy : ws[n]? = none := he.elim (fun h => by rw [hx] at h; cases h) fun h => h
    refine wpAny_bind (next_item (m1.ext s1.extBut D.i1z) (hu.ext s1.extBut D.l1z) hx fun h2 m12 s2 => wpAny_pure ?_)
    have o2 : IsPair h2 tO p r := s2.extBut _ _ D.TOi1 (s1.extBut _ _ D.TOz o0)
    refine wpAny_bind (wpAny_seqItems o2 rfl ?_)
    refine wpAny_bind (wpAny_updateSeq_pair o2 fun h3 o3 s3 => ?_)
    refine wpAny_bind (wpAny_letGo (wpAny_pure ?_))
    refine wpAny_bind (wpAny_bind (wpAny_onRaise ?_))
    show wpAny _ _ (Builtin.SmallTypes.nextOf (.ref i2) >>= _) _ _ _
    refine wpAny_bind (next_end hh (((m2.ext s1.extBut D.i2z).ext s2.extBut D.i12.symm).ext s3.extBut D.TOi2.symm) (((hw.ext s1.extBut D.l2z).ext s2.extBut D.l2i1).ext s3.extBut D.l2TO) hy fun h4 e s4 ⟨oe, ho, hc⟩ => ?_)
    have z4 : IsZip h4 z tI tO .ellipsis := s4 _ _ D.i2z.symm (s3.extBut _ _ D.TOz.symm (s2.extBut _ _ D.i1z.symm z1))
    have ez : e ≠ z := fun x => by subst x; rw [z4] at ho; cases ho; simp at hc
    refine wpAny_setField_rec z4 (by simp) fun h5 _ s5 => q h5 e (fun c o c1 c2 c3 c4 x => s5.extBut _ _ c1 (s4 _ _ c4 (s3.extBut _ _ c2 (s2.extBut _ _ c3 (s1.extBut _ _ c1 x))))) ⟨oe, s5.extBut _ _ ez ho, hc⟩
theorem zip_next {Q : Option Value → Shared → Prop} (D : ZipApart z tI tO i1 i2 a b) (Z : ZpA k k2 s.heap z tI tO i1 i2 a b n .none) (hu : SqA k s.heap a us) (hw : SqA k2 s.heap b ws) (hx : us[n]? = some x) (hy : ws[n]? = some y)
    (q : ∀ h', ZpA k k2 h' z tI tO i1 i2 a b (n + 1) (rawInt s.heap.objs.size) → IsPair h' s.heap.objs.size x y → h'.objs.size = s.heap.objs.size + 1 →
      (∀ c o, c ≠ z → c ≠ tO → c ≠ i1 → c ≠ i2 → s.heap.get? c = some o → h'.get? c = some o) → Q (some (.ref s.heap.objs.size)) { s with heap := h' }) : wpAny (model prog w) A (pyNext (.ref z)) Q E s := by
  have ty : s.TypeIs (.ref z) "zip" := ⟨_, Z.z0, rfl⟩
  unfold pyNext
  exact wpAny_bind (wpAny_attempt (wpAny_callSpecial?_slot (name := Str.ofString "__next__") ty F.slot_zip_next
    (wpAny_call_entry F.slot_zip_next ty F.entry_zip_next (zip_item D Z hu hw hx hy fun h' p1 p2 p3 p4 => wpAny_pure (q h' p1 p2 p3 p4)) (F.args_zip_next_1 _))))
theorem zip_stop {Q : Option Value → Shared → Prop} (hh : A.handled = none) (D : ZipApart z tI tO i1 i2 a b) (Z : ZpA k k2 s.heap z tI tO i1 i2 a b n .none) (hu : SqA k s.heap a us) (hw : SqA k2 s.heap b ws) (he : us[n]? = none ∨ ws[n]? = none)
    (q : ∀ h', (∀ c o, c ≠ z → c ≠ tO → c ≠ i1 → c ≠ i2 → s.heap.get? c = some o → h'.get? c = some o) → Q none { s with heap := h' }) : wpAny (model prog w) A (pyNext (.ref z)) Q E s := by
  have ty : s.TypeIs (.ref z) "zip" := ⟨_, Z.z0, rfl⟩
  unfold pyNext
  refine wpAny_bind (wpAny_attempt (wpAny_callSpecial?_slot (name := Str.ofString "__next__") ty F.slot_zip_next
    (wpAny_call_entry F.slot_zip_next ty F.entry_zip_next (zip_end hh D Z hu hw he fun h' e hk ⟨o, ho, hc⟩ => ?_) (F.args_zip_next_1 _))))
  exact wpAny_bind (wpAny_isInstance (T := "StopIteration") (b := true) ⟨o, ho, hc⟩ isSubtype_stop (wpAny_pure (q _ hk)))
end
/-! ### zip, made -/
abbrev itO (k : Bool) (l : Addr) : Obj := { cls := .type (if k then "tuple_iterator" else "list_iterator"), data := .fields #[.ref l, .int 0 0] }
abbrev zH1 (k : Bool) (h : Heap) (a : Addr) : Heap := h.push (itO k a)
abbrev zH2 (k k2 : Bool) (h : Heap) (a b : Addr) : Heap := (zH1 k h a).push (itO k2 b)
abbrev zH3 (k k2 : Bool) (h : Heap) (a b : Addr) : Heap := (zH2 k k2 h a b).push { cls := .type "tuple", data := .seq #[.ref h.objs.size, .ref (zH1 k h a).objs.size] }
abbrev zH4 (k k2 : Bool) (h : Heap) (a b : Addr) : Heap := (zH3 k k2 h a b).push { cls := .type "tuple", data := .seq #[.none, .none] }
abbrev zH5 (k k2 : Bool) (h : Heap) (a b : Addr) : Heap := (zH4 k k2 h a b).push { cls := .type "zip", data := .fields #[.none, .bool false, .bool false, .ref (zH2 k k2 h a b).objs.size, .ref (zH3 k k2 h a b).objs.size] }
theorem zip_made (k k2 : Bool) (a b : Addr) (us ws : Array Value) :
    Meets (Builtin.«zip.__new__» ⟨[.type "zip", .ref a, .ref b], []⟩) (fun _ R s => SqA k s.heap a us ∧ SqA k2 s.heap b ws ∧
      R (.ok (.ret (.ref (zH4 k k2 s.heap a b).objs.size))) { s with heap := zH5 k k2 s.heap a b }) :=
  .of_wp fun prog w A R s h => by
    obtain ⟨hp, g, d, tk, os⟩ := s
    obtain ⟨x1, x2, h⟩ := h
    have hsub := sub_zip
    have X1 : SqA k (Shared.heap ⟨hp, g, d, tk, os⟩) a us := x1
    have X2 : SqA k2 (Shared.heap ⟨hp.push (itO k a), g, d, tk, os⟩) b ws := x2.psh _
    wp_walk using iter_sq X1, iter_sq X2
    exact ⟨_, rfl, h⟩
section
variable {prog : Program} {w : World} {A : Around} {E : Value → Shared → Prop} {s : Shared} {k k2 : Bool} {a b : Addr} {us ws : Array Value}
theorem zip_call {Q : Value → Shared → Prop} (hu : SqA k s.heap a us) (hw : SqA k2 s.heap b ws)
    (q : ∀ h', ZpA k k2 h' (s.heap.objs.size + 4) (s.heap.objs.size + 2) (s.heap.objs.size + 3) s.heap.objs.size (s.heap.objs.size + 1) a b 0 .none →
      (∀ c o, s.heap.get? c = some o → h'.get? c = some o) → Q (.ref (s.heap.objs.size + 4)) { s with heap := h' }) : wpAny (model prog w) A (call (.type "zip") [.ref a, .ref b]) Q E s := by
  refine callType_new F.called_zip (by decide) (F.typeCall_zip_2 _ _) (F.newCall_zip_2 _ _) (fun obj => F.args_object_init_3 obj _ _) F.entry_zip_new (zip_made k k2 a b us ws) ⟨hu, hw, ?_⟩
  have n1 : (zH1 k s.heap a).objs.size = s.heap.objs.size + 1 := Heap.size_push ..
  have n2 : (zH2 k k2 s.heap a b).objs.size = s.heap.objs.size + 2 := by rw [Heap.size_push, n1]
  have n3 : (zH3 k k2 s.heap a b).objs.size = s.heap.objs.size + 3 := by rw [Heap.size_push, n2]
  have n4 : (zH4 k k2 s.heap a b).objs.size = s.heap.objs.size + 4 := by rw [Heap.size_push, n3]
  have up : ∀ {h : Heap} {c : Addr} {o u : Obj}, h.get? c = some o → (h.push u).get? c = some o := fun e => Heap.get?_push_of_some _ e
  have g5 : (zH5 k k2 s.heap a b).get? (zH4 k k2 s.heap a b).objs.size = some _ := Heap.get?_push_size _ rfl
  have g4 : (zH5 k k2 s.heap a b).get? (zH3 k k2 s.heap a b).objs.size = some _ := up (Heap.get?_push_size _ rfl)
  have g3 : (zH5 k k2 s.heap a b).get? (zH2 k k2 s.heap a b).objs.size = some _ := up (up (Heap.get?_push_size _ rfl))
  have g2 : (zH5 k k2 s.heap a b).get? (zH1 k s.heap a).objs.size = some _ := up (up (up (Heap.get?_push_size _ rfl)))
  have g1 : (zH5 k k2 s.heap a b).get? s.heap.objs.size = some _ := up (up (up (up (Heap.get?_push_size _ rfl))))
  rw [n2, n3, n4] at g5
  rw [n1, n2] at g3
  rw [n3] at g4
  rw [n1] at g2
  have i1 : ItA k (zH5 k k2 s.heap a b) s.heap.objs.size a 0 := by
    cases k <;> exact ⟨_, g1, rfl, rfl⟩
  have i2 : ItA k2 (zH5 k k2 s.heap a b) (s.heap.objs.size + 1) b 0 := by
    cases k2 <;> exact ⟨_, g2, rfl, rfl⟩
  show _ ∧ _
  rw [n4]
  exact ⟨⟨_, g5, rfl⟩, q _ ⟨g5, g3, ⟨_, _, g4⟩, i1, i2⟩ fun c o x => up (up (up (up (up x))))⟩
end
/-! ### as an iterable -/
section
variable {X : Cx} {pins : List (Addr × Obj)} {σ : L2.St} {H : Hp} {s : Shared} {k k2 : Bool} {a b : Addr} {xs : List V}
theorem sqa (I : L2.Inv X pins σ H s) (h : SqK k X.K H a xs) : ∃ us : List Value, Vals xs us ∧ SqA k s.heap a us.toArray := by
  cases k
  · obtain ⟨us, r, p, _⟩ := I.list h
    exact ⟨us, r, p.isList⟩
  · obtain ⟨us, r, p, _⟩ := I.tuple h
    exact ⟨us, r, p⟩
theorem sq_inj {ys : List V} (I : L2.Inv X pins σ H s) (h : SqK k X.K H a xs) (h' : SqK k X.K H a ys) : ys = xs := by
  cases k
  · exact I.list_inj h' h
  · exact I.tuple_inj h' h
/-- the sequences at a and b, walked side by side -/
def Itw (k k2 : Bool) (K : PySem.W.Frag) (a b : Addr) : It where
  go := fun i H => ∃ (xs ys : List V) (x y : V), SqK k K H a xs ∧ SqK k2 K H b ys ∧ xs[i]? = some x ∧ ys[i]? = some y
  yld := fun i H v H' => ∃ T x y, v = .ref T ∧ H T = none ∧ H' = upd H T (.tup [x, y]) ∧ (∀ xs, SqK k K H a xs → xs[i]? = some x) ∧ ∀ ys, SqK k2 K H b ys → ys[i]? = some y
  stop := fun i H => ∃ xs ys : List V, SqK k K H a xs ∧ SqK k2 K H b ys ∧ (xs.length ≤ i ∨ ys.length ≤ i)
theorem turn_zw {P : Program} {w : World} {K : PySem.W.Frag} {elts : List Expr} {kk : Nat} {tpos : Pos} {z tI tO i1 i2 : Addr} (D : ZipApart z tI tO i1 i2 a b) :
    Turn P w K (.Tuple elts kk tpos) (Itw k k2 K a b) [z, tI, tO, i1, i2] z (fun i h => ZpA k k2 h z tI tO i1 i2 a b i .none) where
  mem := by simp
  obj := fun i h Z c hc => by
    have e : c = z ∨ c = tI ∨ c = tO ∨ c = i1 ∨ c = i2 := by simpa using hc
    rcases e with rfl | rfl | rfl | rfl | rfl
    · exact ⟨_, Z.z0, fun v q => nomatch q⟩
    · exact ⟨_, Z.t0, fun v q => nomatch q⟩
    · obtain ⟨_, _, o0⟩ := Z.o0
      exact ⟨_, o0, fun v q => nomatch q⟩
    · obtain ⟨o, vs, e1, d1⟩ := Z.m1.obj
      exact ⟨o, e1, fun v q => by rw [d1] at q; cases q⟩
    · obtain ⟨o, vs, e1, d1⟩ := Z.m2.obj
      exact ⟨o, e1, fun v q => by rw [d1] at q; cases q⟩
  keep := fun i h h' Z m => by
    obtain ⟨z0, t0, ⟨x, y, o0⟩, m1, m2⟩ := Z
    exact ⟨m z (by simp) _ z0, m tI (by simp) _ t0, ⟨x, y, m tO (by simp) _ o0⟩, m1.moved fun o q => m i1 (by simp) o q, m2.moved fun o q => m i2 (by simp) o q⟩
  item := by
    intro X hP hw hK hc i pins s σ H E I hf Z hg
    subst hP hw hK
    obtain ⟨xs, ys, x, y, qx, qy, hx, hy⟩ := hg
    obtain ⟨us, rv, p⟩ := sqa I qx
    obtain ⟨ws, rv2, p2⟩ := sqa I qy
    obtain ⟨u, hu, ru⟩ := rv.get hx
    obtain ⟨u2, hu2, ru2⟩ := rv2.get hy
    have zl : z < s.heap.objs.size := Heap.lt_size Z.z0
    refine zip_next D Z p p2 (x := u) (y := u2) (by simpa using hu) (by simpa using hu2) fun h' Z' hT hs hk => ?_
    refine ⟨_, rfl, wpAny_letOwnedTupleGo_zip (s := { s with heap := h' }) Z'.z0 fun h2 z2 sb => ?_⟩
    have hT2 : h2.get? s.heap.objs.size = some { cls := .type "tuple", data := .seq #[u, u2] } := (sb.2 _ (Nat.ne_of_gt zl)).trans hT
    have new : ObjOk X.prog X.w (upd H s.heap.objs.size (.tup [x, y])) h2 s.heap.objs.size (.tup [x, y]) := ⟨by show 2 ≤ sizeLine; decide, [u, u2], .cons ru (.cons ru2 .nil), ⟨_, hT2, rfl, _, rfl⟩⟩
    have I1 : L2.Inv X pins σ (upd H s.heap.objs.size (.tup [x, y])) { s with heap := h2 } := by
      refine I.turnedNew (t' := s.toks) (ch := [z, tI, tO, i1, i2]) (fun c o hb q => ?_) hf (Nat.le_refl _) new
      have nz : c ≠ z := fun e => hb (by simp [e])
      exact (sb.2 c nz).trans (hk c o nz (fun e => hb (by simp [e])) (fun e => hb (by simp [e])) (fun e => hb (by simp [e])) q)
    refine ⟨.ref s.heap.objs.size, _, I1, rfl, ⟨_, x, y, rfl, I.hok.fresh (Nat.le_refl _), rfl, fun l hl => by rw [sq_inj I qx hl]; exact hx, fun l hl => by rw [sq_inj I qy hl]; exact hy⟩, ?_, fun c hm => ?_⟩
    · obtain ⟨zz, t0, ⟨x', y', o0⟩, m1, m2⟩ := Z'
      exact ⟨z2, (sb.2 _ D.TIz).trans t0, ⟨x', y', (sb.2 _ D.TOz).trans o0⟩, m1.moved fun o q => (sb.2 _ D.i1z).trans q, m2.moved fun o q => (sb.2 _ D.i2z).trans q⟩
    · obtain ⟨z0, t0, ⟨x', y', o0⟩, m1, m2⟩ := Z
      obtain ⟨q1, _, e1, _⟩ := m1.obj
      obtain ⟨q2, _, e2, _⟩ := m2.obj
      have lt : c < s.heap.objs.size := by
        have e : c = z ∨ c = tI ∨ c = tO ∨ c = i1 ∨ c = i2 := by simpa using hm
        rcases e with rfl | rfl | rfl | rfl | rfl
        · exact zl
        · exact Heap.lt_size t0
        · exact Heap.lt_size o0
        · exact Heap.lt_size e1
        · exact Heap.lt_size e2
      rw [upd_ne (Nat.ne_of_lt lt)]
      exact (hf c hm).1
  done := by
    intro X hP hw hK hc i pins s σ H E I hf Z hg
    subst hP hw hK
    obtain ⟨xs, ys, qx, qy, he⟩ := hg
    obtain ⟨us, rv, p⟩ := sqa I qx
    obtain ⟨ws, rv2, p2⟩ := sqa I qy
    have l1 := rv.length
    have l2 := rv2.length
    have he : us.toArray[i]? = none ∨ ws.toArray[i]? = none := he.elim (fun q => .inl (by simp; omega)) fun q => .inr (by simp; omega)
    refine zip_stop (I.ok.hd hc) D Z p p2 he fun h' hk => ⟨rfl, I.turnedL (t' := s.toks) (ch := [z, tI, tO, i1, i2]) (fun c o hb q => ?_) hf⟩
    exact hk c o (fun e => hb (by simp [e])) (fun e => hb (by simp [e])) (fun e => hb (by simp [e])) (fun e => hb (by simp [e])) q
  self := fun A i s Q E Z h => wpAny_pyIter_zip Z.z0 h
def iZw (K : PySem.W.Frag) (ta : TA) : TI := fun σ H R => ta σ H fun vs H1 => ∃ k k2 a b xs ys, vs = [.ref a, .ref b] ∧ SqK k K H1 a xs ∧ SqK k2 K H1 b ys ∧ R (Itw k k2 K a b) H1
theorem pi_zw {e e2 : Expr} {ta : TA} {p pos tpos : Pos} {elts : List Expr} {kk : Nat} (hg : Gl X "zip") (hm : X.mg "zip" = none) (ha : PA X [e, e2] ta)
    (hs : starEach [e, e2] X.env = (false, eval e X.env) :: starEach [e2] X.env) (hpl : (backTo pos (starEach [e2] X.env)).any (·.1) = false) :
    PI X (.Tuple elts kk tpos) (.Call (.Name "zip" p) [e, e2] [] pos) (iZw X.K ta) := by
  refine ⟨fun pins s σ H R I h => ?_⟩
  refine Call_ (ld_blt I hg hm PyProof.Rows.boot_zip (PyProof.Rows.callWith_type1 (thn (ha.run pos pins s σ H _ I h) fun us s1 ⟨vs, H1, I1, r1, q1⟩ => ?_) hs hpl))
  obtain ⟨k, k2, a, b, xs, ys, rfl, qx, qy, q⟩ := q1
  cases r1 with
  | cons r rr =>
    cases rr with
    | cons r' rr =>
      cases rr
      cases r
      cases r'
      obtain ⟨us, rv, p1⟩ := sqa I1 qx
      obtain ⟨ws, rv2, p2⟩ := sqa I1 qy
      refine zip_call p1 p2 fun h' Z hk => wpAny_pyIter_zip Z.z0 ?_
      have I2 : L2.Inv X pins σ H1 { s1 with heap := h' } := I1.kept (t' := s1.toks) hk
      refine ⟨s1.heap.objs.size + 4, [s1.heap.objs.size + 4, s1.heap.objs.size + 2, s1.heap.objs.size + 3, s1.heap.objs.size, s1.heap.objs.size + 1], _, _, H1, rfl, I2, turn_zw (PySem.W.ktu_apart s1.heap.objs.size a b p1.lt p2.lt), Z, fun c hc => ?_, q⟩
      have le : s1.heap.objs.size ≤ c := by
        have e : c = s1.heap.objs.size + 4 ∨ c = s1.heap.objs.size + 2 ∨ c = s1.heap.objs.size + 3 ∨ c = s1.heap.objs.size ∨ c = s1.heap.objs.size + 1 := by simpa using hc
        rcases e with h | h | h | h | h
        · exact Nat.le_of_add_right_le (Nat.le_of_eq h.symm)
        · exact Nat.le_of_add_right_le (Nat.le_of_eq h.symm)
        · exact Nat.le_of_add_right_le (Nat.le_of_eq h.symm)
        · exact Nat.le_of_eq h.symm
        · exact Nat.le_of_add_right_le (Nat.le_of_eq h.symm)
      exact I1.fpOk le (I1.hok.fresh le)
end
end Mp
end
section
/-! Mp15: what loops walk. -/
namespace Mp
open PySem L2 PyProof.Rows
section
variable {c : Wd} {J : Hp → Prop} {W : WX} {X : Cx} {tg e : Expr}
def iVal (K : PySem.W.Frag) (te : TE) : TI := fun σ H R => te σ H fun x H1 => (∃ a xs, x = .ref a ∧ SqL K H1 a xs ∧ R (Itl K a) H1) ∨ (∃ a xs, x = .ref a ∧ SqT K H1 a xs ∧ R (Itt K a) H1) ∨ ∃ s, x = .str s ∧ R (Its s) H1
theorem pi_val {te : TE} (he : PE X e te) : PI X tg e (iVal X.K te) := by
  refine ⟨fun pins s σ H R I h => ?_⟩
  refine thn (he.run pins s σ H _ I h) fun v s1 ⟨y, H1, I1, r1, q⟩ => ?_
  rcases q with ⟨a, xs, rfl, hq, q⟩ | ⟨a, xs, rfl, hq, q⟩ | ⟨x, rfl, q⟩
  · cases r1
    obtain ⟨us, rv, p, _⟩ := I1.list hq
    exact wpAny_pyIter_list p.isList (pi_one (tk := s1.toks) I1 _ (turn_list a _) ⟨_, Heap.get?_push_size _ rfl, rfl, rfl⟩ q)
  · cases r1
    obtain ⟨us, rv, p, _⟩ := I1.tuple hq
    exact wpAny_pyIter_tuple (show s1.heap.IsTuple a us.toArray from p) (pi_one (tk := s1.toks) I1 _ (turn_tuple a _) ⟨_, Heap.get?_push_size _ rfl, rfl, rfl⟩ q)
  · obtain ⟨t, rfl⟩ := r1
    cases ha : x.cps.all (· < 128)
    · exact wpAny_pyIter_wide ha (pi_one (tk := s1.toks) I1 _ (turn_str _ x t "str_iterator" (.inr rfl)) ⟨_, Heap.get?_push_size _ rfl, rfl, rfl⟩ q)
    · exact wpAny_pyIter_ascii ha (pi_one (tk := s1.toks) I1 _ (turn_str _ x t "str_ascii_iterator" (.inl rfl)) ⟨_, Heap.get?_push_size _ rfl, rfl, rfl⟩ q)
/-- the items of what can be walked -/
def itemsD : D → Option (List D)
  | .lst xs => some xs
  | .tup xs => some xs
  | .scr ns => some (ns.map .int)
  | .str s => some (s.map fun x => .str [x])
  | _ => none
def valM (m : M D) : M (List D) := bnd m fun d => lift (itemsD d)
theorem wk_sql {S : Hp} {a : Addr} {vs : List V} {ds : List D} (hq : SqL c.K S a vs) (r : Reps c S ds vs) : Wk c S (Itl c.K a) ds := by
  refine ⟨fun i H hi hs => ?_, fun H hs => ⟨vs, hs.seq hq, by rw [r.length]; exact Nat.le_refl _⟩, fun i d S1 H x H' hd h1 h2 y => ?_⟩
  · have hl : i < vs.length := by rw [r.length]; exact hi
    exact ⟨vs, vs[i], hs.seq hq, by simp [hl]⟩
  · obtain ⟨rfl, y⟩ := y
    obtain ⟨v, hv, rv⟩ := r.get hd
    have e := y vs ((h1.trans h2).seq hq)
    rw [hv] at e
    cases e
    exact ⟨S1, Grow.refl, h2, Rep.mono h1 _ _ rv⟩
theorem wk_sqt {S : Hp} {a : Addr} {vs : List V} {ds : List D} (hq : ∀ H, Same S H → SqT c.K H a vs) (r : Reps c S ds vs) : Wk c S (Itt c.K a) ds := by
  refine ⟨fun i H hi hs => ?_, fun H hs => ⟨vs, hq H hs, by rw [r.length]; exact Nat.le_refl _⟩, fun i d S1 H x H' hd h1 h2 y => ?_⟩
  · have hl : i < vs.length := by rw [r.length]; exact hi
    exact ⟨vs, vs[i], hq H hs, by simp [hl]⟩
  · obtain ⟨rfl, y⟩ := y
    obtain ⟨v, hv, rv⟩ := r.get hd
    have e := y vs (hq _ (h1.trans h2))
    rw [hv] at e
    cases e
    exact ⟨S1, Grow.refl, h2, Rep.mono h1 _ _ rv⟩
theorem wk_str {S : Hp} {s : Sg} : Wk c S (Its (toStr s)) (s.map fun x => .str [x]) := by
  have sz : (toStr s).cps.size = s.length := by simp [toStr]
  refine ⟨fun i H hi hs => ?_, fun H hs => ?_, fun i d S1 H x H' hd h1 h2 y => ?_⟩
  · show i < (toStr s).cps.size
    rw [sz]
    simpa using hi
  · show (toStr s).cps.size ≤ _
    rw [sz, List.length_map]
    exact Nat.le_refl _
  · obtain ⟨rfl, k, hk, rfl⟩ := y
    have hk : s[i]? = some k := by simpa [toStr] using hk
    rw [List.getElem?_map, hk] at hd
    cases hd
    exact ⟨S1, Grow.refl, h2, by simp only [Rep]; rfl⟩
theorem reps_ints (S : Hp) : ∀ ns : List Int, Reps c S (ns.map .int) (ns.map V.int)
  | [] => by simp [Reps]
  | n :: ns => by
    simp only [List.map_cons, Reps]
    exact ⟨_, _, rfl, by simp only [Rep], reps_ints S ns⟩
theorem pis_valM {m : M D} (hk : X.K = c.K) (he : PE X e (tD c J W m)) : PIs c J W X tg e (valM m) := by
  refine ⟨PI.mono (pi_val he) fun σ H R ⟨env, S, F, g, q⟩ => ?_⟩
  rw [hk]
  refine ⟨env, S, F, g, Fin.seq0 q fun d env1 v S1 H1 F1 A1 e1 g1 s1 r1 ap1 q => ?_⟩
  obtain ⟨r1, rfl⟩ := r1
  cases e2 : itemsD d with
  | none =>
    simp only [lift, e2] at q
    exact q.elim
  | some ds =>
    simp only [lift, e2] at q
    have fin : ∀ I : It, Wk c S1 I ds → R I H1 := fun I w => q.unil I S1 H1 F1 [] g1 (Step.refl.post fun a h => plus_nil.mp h) ⟨w, rfl⟩ apart_nil
    cases d <;> simp only [itemsD, reduceCtorEq, Option.some.injEq] at e2 <;> subst e2 <;> simp only [Rep] at r1
    · subst r1
      exact .inr (.inr ⟨_, rfl, fin _ wk_str⟩)
    · obtain ⟨a, vs, rfl, h, z⟩ := r1
      exact .inr (.inl ⟨a, vs, rfl, .of (g1.sub _ _ h), fin _ (wk_sqt (fun H hs => .of (hs _ _ h)) z)⟩)
    · obtain ⟨a, vs, rfl, h, z⟩ := r1
      exact .inl ⟨a, vs, rfl, .of (g1.sub _ _ h), fin _ (wk_sql (.of h) z)⟩
    · obtain ⟨a, rfl, h⟩ := r1
      exact .inl ⟨a, _, rfl, g1.sub.seq h, fin _ (wk_sql h (reps_ints _ _))⟩
/-! ### range -/
def rngL (lo : Int) (n : Nat) : List D := (List.range n).map fun i : Nat => D.int (lo + (i : Int))
def small62 (j : Int) : Bool := decide (-(2 ^ 62) ≤ j) && decide (j < 2 ^ 62)
def rng1F : List D → Option (List D)
  | [.int j] => if small62 j then some (rngL 0 j.toNat) else none
  | _ => none
def rng2F : List D → Option (List D)
  | [.int i, .int j] => if small62 i && small62 j then some (rngL i (j - i).toNat) else none
  | _ => none
def rng1M (ms : M (List D)) : M (List D) := bnd ms fun ds => lift (rng1F ds)
def rng2M (ms : M (List D)) : M (List D) := bnd ms fun ds => lift (rng2F ds)
theorem wk_rng {S : Hp} {lo : Int} {n : Nat} : Wk c S (Itr lo n) (rngL lo n) := by
  have hl : (rngL lo n).length = n := by simp [rngL]
  refine ⟨fun i H hi hs => ?_, fun H hs => ?_, fun i d S1 H x H' hd h1 h2 y => ?_⟩
  · rw [hl] at hi
    exact hi
  · rw [hl]
    exact Nat.le_refl n
  · obtain ⟨rfl, rfl⟩ := y
    have hi : i < n := by
      have := (List.getElem?_eq_some_iff.mp hd).1
      rwa [hl] at this
    unfold rngL at hd
    rw [List.getElem?_map, List.getElem?_range hi] at hd
    cases hd
    exact ⟨S1, Grow.refl, h2, by simp only [Rep]⟩
theorem small62_ok {j : Int} (h : small62 j = true) : -(2 ^ 62) ≤ j ∧ j < 2 ^ 62 := by
  unfold small62 at h
  simpa using h
theorem wk_fin {α : Type} {ms : M α} {f : α → Option (List D)} {a : α} {env1 : Env} {S1 H1 : Hp} {F1 : Nat → List Addr} {σ : L2.St} {R : It → Hp → Prop} (g1 : Good c J σ H1 S1 env1 F1)
    (q : Fin c J (fun S' _ ds (I : It) A => Wk c S' I ds ∧ A = []) W S1 H1 (plus (un F1) []) σ R (lift (f a) env1)) : ∃ ds, f a = some ds ∧ ∀ I, Wk c S1 I ds → R I H1 := by
  cases e2 : f a with
  | none =>
    simp only [lift, e2] at q
    exact q.elim
  | some ds =>
    simp only [lift, e2] at q
    exact ⟨ds, rfl, fun I w => q.unil I S1 H1 F1 [] g1 (Step.refl.post fun a h => plus_nil.mp h) ⟨w, rfl⟩ apart_nil⟩
theorem pis_rng1 {a : Expr} {p pos : Pos} {ms : M (List D)} (hg : Gl X "range") (hm : X.mg "range" = none) (ha : PA X [a] (tLD c J W ms)) (hs : starEach [a] X.env = [(false, eval a X.env)]) : PIs c J W X tg (.Call (.Name "range" p) [a] [] pos) (rng1M ms) := by
  refine ⟨PI.mono (pi_range1 hg hm ha hs) fun σ H R ⟨env, S, F, g, q⟩ => ?_⟩
  refine ⟨env, S, F, g, Fin.seq0 q fun ds env1 vs S1 H1 F1 A1 e1 g1 s1 r1 ap1 q => ?_⟩
  obtain ⟨r1, rfl⟩ := r1
  obtain ⟨is, e2, q⟩ := wk_fin (ms := ms) (f := rng1F) g1 q
  match ds, e2 with
  | [.int j], e2 =>
    obtain ⟨v, rfl, r2⟩ := r1.one_of
    simp only [rng1F] at e2
    split at e2
    · rename_i h
      cases e2
      obtain ⟨h1, h2⟩ := small62_ok h
      simp only [Rep] at r2
      exact ⟨_, by rw [r2], h1, h2, q _ wk_rng⟩
    · cases e2
theorem pis_rng2 {a b : Expr} {p pos : Pos} {ms : M (List D)} (hg : Gl X "range") (hm : X.mg "range" = none) (ha : PA X [a, b] (tLD c J W ms)) (hs : starEach [a, b] X.env = [(false, eval a X.env), (false, eval b X.env)]) (hs2 : starEach [b] X.env = [(false, eval b X.env)]) :
    PIs c J W X tg (.Call (.Name "range" p) [a, b] [] pos) (rng2M ms) := by
  refine ⟨PI.mono (pi_range2 hg hm ha hs hs2) fun σ H R ⟨env, S, F, g, q⟩ => ?_⟩
  refine ⟨env, S, F, g, Fin.seq0 q fun ds env1 vs S1 H1 F1 A1 e1 g1 s1 r1 ap1 q => ?_⟩
  obtain ⟨r1, rfl⟩ := r1
  obtain ⟨is, e2, q⟩ := wk_fin (ms := ms) (f := rng2F) g1 q
  match ds, e2 with
  | [.int i, .int j], e2 =>
    obtain ⟨v, w, rfl, r2, r3⟩ := r1.two_of
    simp only [rng2F] at e2
    split at e2
    · rename_i h
      cases e2
      rw [Bool.and_eq_true] at h
      obtain ⟨h1, h2⟩ := small62_ok h.1
      obtain ⟨h3, h4⟩ := small62_ok h.2
      simp only [Rep] at r2 r3
      exact ⟨_, _, by rw [r2, r3], ⟨h1, h2, h3, h4⟩, q _ wk_rng⟩
    · cases e2
/-! ### zip -/
def zipF : List D → Option (List D)
  | [a, b] => (seqF a).bind fun xs => (seqF b).map fun ys => (xs.zip ys).map fun p => .tup [p.1, p.2]
  | _ => none
def zipM (ms : M (List D)) : M (List D) := bnd ms fun ds => lift (zipF ds)
theorem seq_rep {S : Hp} {d : D} {v : V} {xs : List D} (r : Rep c S d v) (h : seqF d = some xs) : ∃ k a vs, v = .ref a ∧ (∀ H, Same S H → SqK k c.K H a vs) ∧ Reps c S xs vs := by
  cases d <;> simp only [seqF, reduceCtorEq, Option.some.injEq] at h <;> subst h <;> simp only [Rep] at r
  · obtain ⟨a, vs, rfl, h, z⟩ := r
    exact ⟨true, a, vs, rfl, fun H hs => SqT.of (hs _ _ h), z⟩
  · obtain ⟨a, vs, rfl, h, z⟩ := r
    exact ⟨false, a, vs, rfl, fun H hs => SqL.of (hs _ _ h), z⟩
/-- a new tuple, shared at once -/
theorem new_tup {S H : Hp} {T : Addr} {ds : List D} {vs : List V} (hs : Same S H) (hT : H T = none) (r : Reps c S ds vs) : Grow S H (upd S T (.tup vs)) (upd H T (.tup vs)) ∧ Same (upd S T (.tup vs)) (upd H T (.tup vs)) ∧ Rep c (upd S T (.tup vs)) (.tup ds) (.ref T) := by
  have hS : S T = none := hs.free hT
  refine ⟨⟨same_upd hT, same_upd hS, fun a o e => by rw [upd_ne (ne_of_none e hT)]⟩, fun b x e => ?_, ?_⟩
  · by_cases hb : b = T
    · subst hb
      rw [upd_same] at e ⊢
      exact e
    · rw [upd_ne hb] at e ⊢
      exact hs b x e
  · simp only [Rep]
    exact ⟨T, vs, rfl, upd_same, Reps.mono (same_upd hS) ds vs r⟩
theorem wk_zip {S : Hp} {k k2 : Bool} {a b : Addr} {vs ws : List V} {ds es : List D} (hq : ∀ H, Same S H → SqK k c.K H a vs) (hq2 : ∀ H, Same S H → SqK k2 c.K H b ws) (r : Reps c S ds vs) (r2 : Reps c S es ws) :
    Wk c S (Itw k k2 c.K a b) ((ds.zip es).map fun p => .tup [p.1, p.2]) := by
  have l1 := r.length
  have l2 := r2.length
  refine ⟨fun i H hi hs => ?_, fun H hs => ?_, fun i d S1 H x H' hd h1 h2 y => ?_⟩
  · rw [List.length_map, List.length_zip] at hi
    have h1 : i < vs.length := by omega
    have h2 : i < ws.length := by omega
    exact ⟨vs, ws, vs[i], ws[i], hq H hs, hq2 H hs, by simp [h1], by simp [h2]⟩
  · refine ⟨vs, ws, hq H hs, hq2 H hs, ?_⟩
    rw [List.length_map, List.length_zip]
    omega
  · obtain ⟨T, u, w, rfl, hT, rfl, f1, f2⟩ := y
    rw [List.getElem?_map] at hd
    obtain ⟨p, hp, rfl⟩ := Option.map_eq_some_iff.mp hd
    obtain ⟨d1, d2⟩ := p
    have hp := List.getElem?_zip_eq_some.mp hp
    obtain ⟨v1, hv1, rv1⟩ := r.get hp.1
    obtain ⟨v2, hv2, rv2⟩ := r2.get hp.2
    have e1 := f1 vs (hq _ (h1.trans h2))
    have e2 := f2 ws (hq2 _ (h1.trans h2))
    rw [hv1] at e1
    rw [hv2] at e2
    cases e1
    cases e2
    have rr : Reps c S1 [d1, d2] [u, w] := by
      simp only [Reps]
      exact ⟨_, _, rfl, Rep.mono h1 _ _ rv1, _, _, rfl, Rep.mono h1 _ _ rv2, rfl⟩
    obtain ⟨n1, n2, n3⟩ := new_tup h2 hT rr
    exact ⟨_, n1, n2, n3⟩
theorem pis_zip {e2 : Expr} {p pos tpos : Pos} {elts : List Expr} {kk : Nat} {ms : M (List D)} (hk : X.K = c.K) (hg : Gl X "zip") (hm : X.mg "zip" = none) (ha : PA X [e, e2] (tLD c J W ms))
    (hs : starEach [e, e2] X.env = (false, eval e X.env) :: starEach [e2] X.env) (hpl : (backTo pos (starEach [e2] X.env)).any (·.1) = false) : PIs c J W X (.Tuple elts kk tpos) (.Call (.Name "zip" p) [e, e2] [] pos) (zipM ms) := by
  refine ⟨PI.mono (pi_zw hg hm ha hs hpl) fun σ H R ⟨env, S, F, g, q⟩ => ?_⟩
  rw [hk]
  refine ⟨env, S, F, g, Fin.seq0 q fun ds env1 vs S1 H1 F1 A1 e1 g1 s1 r1 ap1 q => ?_⟩
  obtain ⟨r1, rfl⟩ := r1
  obtain ⟨is, e2, q⟩ := wk_fin (ms := ms) (f := zipF) g1 q
  match ds, e2 with
  | [a, b], e2 =>
    obtain ⟨v, w, rfl, r2, r3⟩ := r1.two_of
    simp only [zipF] at e2
    cases h1 : seqF a with
    | none => rw [h1] at e2; cases e2
    | some xs =>
      cases h2 : seqF b with
      | none => rw [h1, h2] at e2; cases e2
      | some ys =>
        rw [h1, h2] at e2
        cases e2
        obtain ⟨k, p, vs, rfl, hq, z⟩ := seq_rep r2 h1
        obtain ⟨k2, p2, ws, rfl, hq2, z2⟩ := seq_rep r3 h2
        exact ⟨k, k2, p, p2, vs, ws, rfl, hq _ g1.sub, hq2 _ g1.sub, q _ (wk_zip hq hq2 z z2)⟩
end
end Mp
end
section
/-! Mp16: list comprehensions. -/
namespace Mp
open PySem L2 PyProof.Rows
section
variable {c : Wd} {J : Hp → Prop} {W : WX} {X : Cx} {S H : Hp} {A B : List Addr} {σ : L2.St} {env : Env} {F : Nat → List Addr} {i : Nat} {o : O} {v : V} {D : Addr} {x y : HO}
/-- an own object is written over -/
theorem Good.write (wo : WdOk c J) (g : Good c J σ H S env F) (e : H D = some x) (nf : ¬ fixO x) (hS : S D = none) (out : ¬ un F D) : Good c J σ (upd H D y) S env F where
  sub := fun a o q => by
    have ne : a ≠ D := fun z => by rw [z, hS] at q; cases q
    rw [upd_ne ne]
    exact g.sub a o q
  inv := wo.jk H _ g.inv fun a o q f => by
    have ne : a ≠ D := fun z => by rw [z, e] at q; cases q; exact nf f
    rw [upd_ne ne]
    exact q
  rep := fun i o q => by
    obtain ⟨v, h1, r⟩ := g.rep i o q
    exact ⟨v, h1, Ro.frame (Same.refl _) o v _ r fun a ha => ⟨upd_ne fun z => out ⟨i, z ▸ ha⟩, rfl⟩⟩
  nod := g.nod
  dis := g.dis
  nil := g.nil
  len := g.len
theorem Step.write {U : Uset} (h : U D) : Step S H U S (upd H D y) U := ⟨Same.refl _, fun a o e n => ⟨by
  have ne : a ≠ D := fun z => n (by rw [z]; exact h)
  rw [upd_ne ne]
  exact e, rfl, n⟩⟩
/-- a slot is forgotten -/
theorem Good.drop (g : Good c J σ H S env F) (i : Nat) : Good c J (σ.set i none) H S (env.set i none) (upF F i []) where
  sub := g.sub
  inv := g.inv
  rep := fun j o' h => by
    by_cases hj : j = i
    · subst hj
      by_cases hl : j < env.length
      · rw [List.getElem?_set_self hl] at h
        cases h
      · rw [List.getElem?_eq_none (by rw [List.length_set]; omega)] at h
        cases h
    · rw [List.getElem?_set_ne (Ne.symm hj)] at h
      obtain ⟨v, e, r⟩ := g.rep j o' h
      rw [upF_ne hj]
      exact ⟨v, by rw [List.getElem?_set_ne (Ne.symm hj)]; exact e, r⟩
  nod := fun j => by
    by_cases hj : j = i
    · rw [hj, upF_same]
      exact List.nodup_nil
    · rw [upF_ne hj]
      exact g.nod j
  dis := fun j k a hj hk => by
    by_cases h1 : j = i
    · rw [h1, upF_same] at hj
      exact absurd hj (by simp)
    · by_cases h2 : k = i
      · rw [h2, upF_same] at hk
        exact absurd hk (by simp)
      · rw [upF_ne h1] at hj
        rw [upF_ne h2] at hk
        exact g.dis j k a hj hk
  nil := fun j h => by
    by_cases hj : j = i
    · rw [hj, upF_same]
    · rw [upF_ne hj]
      exact g.nil j fun o' z => h o' (by rw [List.getElem?_set_ne (Ne.symm hj)]; exact z)
  len := by rw [List.length_set, List.length_set]; exact g.len
def wipeE (env : Env) : List Nat → Env
  | [] => env
  | v :: vs => (wipeE env vs).set v none
theorem Good.wipe : ∀ (vs : List Nat) {F : Nat → List Addr}, Good c J σ H S env F → ∃ F', Good c J (L2.wipe σ vs) H S (wipeE env vs) F' ∧ ∀ a, un F' a → un F a
  | [], F, g => ⟨F, g, fun _ h => h⟩
  | v :: vs, F, g => by
    obtain ⟨F', g', h⟩ := Good.wipe vs g
    refine ⟨_, g'.drop v, fun a ha => h a ?_⟩
    rcases un_upF.mp ha with z | ⟨j, _, z⟩
    · exact absurd z (by simp)
    · exact ⟨j, z⟩
/-- a slot's thing, if any, is shared -/
def shV (i : Nat) : M Unit := fun env => match env[i]? with
  | some (some o) => (.ok (), env.set i (some (.sh o.share)))
  | _ => (.ok (), env)
def shVs : List Nat → M Unit
  | [] => ret ()
  | i :: is => bnd (shV i) fun _ => shVs is
/-- all that stands at vs is shared -/
def AllSh (vs : List Nat) (env : Env) : Prop := ∀ i ∈ vs, ∀ o, env[i]? = some (some o) → ∃ d, o = .sh d
theorem shV_ok (g : Good c J σ H S env F) (i : Nat) : ∃ env' S' F', shV i env = (.ok (), env') ∧ Good c J σ H S' env' F' ∧ Step S H (un F) S' H (un F') ∧ AllSh [i] env' ∧ ∀ vs, AllSh vs env → AllSh vs env' := by
  unfold shV
  have no : (∀ o, env[i]? ≠ some (some o)) → AllSh [i] env := fun h j hj o e => by
    rw [List.mem_singleton.mp hj] at e
    exact absurd e (h o)
  cases e : env[i]? with
  | none => exact ⟨env, S, F, rfl, g, Step.refl, no (fun o h => by rw [e] at h; cases h), fun _ h => h⟩
  | some z =>
    cases z with
    | none => exact ⟨env, S, F, rfl, g, Step.refl, no (fun o h => by rw [e] at h; cases h), fun _ h => h⟩
    | some o =>
      obtain ⟨v, e1, r, g1, ap⟩ := g.take e
      obtain ⟨S', g2, r2, s2, sm⟩ := g1.share r ap
      have g3 := g2.back (v := v) (o := .sh o.share) (A := []) e1 (by simp only [Ro]; exact ⟨r2, trivial⟩) apart_nil
      rw [upF_upF, List.set_set] at g3
      have hl : i < env.length := (List.getElem?_eq_some_iff.mp e).1
      refine ⟨_, S', _, rfl, g3, s2.pre fun a h => un_take.mpr h, fun j hj o' e' => ?_, fun vs h j hj o' e' => ?_⟩
      · rw [List.mem_singleton.mp hj, List.getElem?_set_self hl] at e'
        cases e'
        exact ⟨_, rfl⟩
      · by_cases hji : j = i
        · rw [hji, List.getElem?_set_self hl] at e'
          cases e'
          exact ⟨_, rfl⟩
        · rw [List.getElem?_set_ne (Ne.symm hji)] at e'
          exact h j hj o' e'
theorem shVs_ok : ∀ (vs : List Nat) {S : Hp} {env : Env} {F : Nat → List Addr}, Good c J σ H S env F → ∃ env' S' F', shVs vs env = (.ok (), env') ∧ Good c J σ H S' env' F' ∧ Step S H (un F) S' H (un F') ∧ AllSh vs env' ∧ ∀ ws, AllSh ws env → AllSh ws env'
  | [], S, env, F, g => ⟨env, S, F, rfl, g, Step.refl, fun j hj => absurd hj (by simp), fun _ h => h⟩
  | i :: is, S, env, F, g => by
    obtain ⟨e1, S1, F1, q1, g1, s1, a1, k1⟩ := shV_ok g i
    obtain ⟨e2, S2, F2, q2, g2, s2, a2, k2⟩ := shVs_ok is g1
    refine ⟨e2, S2, F2, by simp only [shVs, bnd, q1, q2], g2, s1.trans s2, fun j hj => ?_, fun ws h => k2 ws (k1 ws h)⟩
    rcases List.mem_cons.mp hj with rfl | hj
    · exact k2 [j] a1 j (List.mem_singleton.mpr rfl)
    · exact a2 j hj
/-- the slots at vs as they were in env0 -/
def backE (env0 env : Env) : List Nat → Env
  | [] => env
  | v :: vs => (backE env0 env vs).set v ((env0[v]?).join)
theorem backE_len (env0 env : Env) : ∀ vs, (backE env0 env vs).length = env.length
  | [] => rfl
  | v :: vs => by
    unfold backE
    rw [List.length_set, backE_len env0 env vs]
theorem backE_out (env0 env : Env) {i : Nat} : ∀ {vs : List Nat}, i ∉ vs → (backE env0 env vs)[i]? = env[i]?
  | [], _ => rfl
  | v :: vs, h => by
    have h1 : v ≠ i := fun e => h (by rw [e]; exact List.mem_cons_self)
    unfold backE
    rw [List.getElem?_set_ne h1]
    exact backE_out env0 env fun z => h (List.mem_cons_of_mem _ z)
theorem backE_in (env0 env : Env) {i : Nat} (hi : i < env.length) : ∀ {vs : List Nat}, i ∈ vs → (backE env0 env vs)[i]? = some (env0[i]?).join
  | [], h => absurd h (by simp)
  | v :: vs, h => by
    unfold backE
    by_cases e : v = i
    · rw [e, List.getElem?_set_self (by rw [backE_len]; exact hi)]
    · rw [List.getElem?_set_ne e]
      rcases List.mem_cons.mp h with z | z
      · exact absurd z.symm e
      · exact backE_in env0 env hi z
theorem wipe_in {σ : L2.St} {i : Nat} (hi : i < σ.length) : ∀ {vs : List Nat}, i ∈ vs → (L2.wipe σ vs)[i]? = some none
  | [], h => absurd h (by simp)
  | v :: vs, h => by
    unfold L2.wipe
    by_cases e : v = i
    · rw [e, List.getElem?_set_self (by rw [wipe_length]; exact hi)]
    · rw [List.getElem?_set_ne e]
      rcases List.mem_cons.mp h with z | z
      · exact absurd z.symm e
      · exact wipe_in hi z
theorem wipe_outN {σ : L2.St} {i : Nat} : ∀ {vs : List Nat}, i ∉ vs → (L2.wipe σ vs)[i]? = σ[i]?
  | [], _ => rfl
  | v :: vs, h => by
    have h1 : v ≠ i := fun e => h (by rw [e]; exact List.mem_cons_self)
    unfold L2.wipe
    rw [List.getElem?_set_ne h1]
    exact wipe_outN fun z => h (List.mem_cons_of_mem _ z)
theorem join_some {α : Type} {x : Option (Option α)} {o : α} (h : x.join = some o) : x = some (some o) := by
  cases x with
  | none => cases h
  | some y =>
    cases y with
    | none => cases h
    | some z => cases h; rfl
theorem Good.unwipe {vs : List Nat} {S0 H0 : Hp} {env0 : Env} {F0 : Nat → List Addr} (g : Good c J (L2.wipe σ vs) H S env F) (g0 : Good c J σ H0 S0 env0 F0) (all : AllSh vs env0) (sm : Same S0 S) : Good c J σ H S (backE env0 env vs) F := by
  have lw : env.length = σ.length := by rw [g.len, wipe_length]
  have fnil : ∀ i ∈ vs, F i = [] := fun i hi => g.nil i fun o e => by
    obtain ⟨v, e1, _⟩ := g.rep i o e
    exact (wipe_some e1).2 hi
  refine ⟨g.sub, g.inv, fun i o e => ?_, g.nod, g.dis, fun i h => ?_, by rw [backE_len, lw]⟩
  · by_cases hi : i ∈ vs
    · have hl : i < env.length := by
        have := (List.getElem?_eq_some_iff.mp e).1
        rwa [backE_len] at this
      rw [backE_in env0 env hl hi] at e
      have e := join_some (Option.some.inj e)
      obtain ⟨d, rfl⟩ := all i hi o e
      obtain ⟨v, e1, r⟩ := g0.rep i _ e
      simp only [Ro] at r
      exact ⟨v, e1, by simp only [Ro]; exact ⟨Rep.mono sm _ _ r.1, fnil i hi⟩⟩
    · rw [backE_out env0 env hi] at e
      obtain ⟨v, e1, r⟩ := g.rep i o e
      exact ⟨v, (wipe_some e1).1, r⟩
  · by_cases hi : i ∈ vs
    · exact fnil i hi
    · exact g.nil i fun o e => h o (by rw [backE_out env0 env hi]; exact e)
theorem puts_len : ∀ {is : List Nat} {os : List O} {env : Env} {r : Out Fl} {e2 : Env}, putsM is os env = (r, e2) → e2.length = env.length
  | [], [], env, r, e2, h => by
    cases h
    rfl
  | [], _ :: _, env, r, e2, h => by
    cases h
    rfl
  | _ :: _, [], env, r, e2, h => by
    cases h
    rfl
  | i :: is, o :: os, env, r, e2, h => by
    simp only [putsM, seqM, bnd, putV] at h
    by_cases hi : i < env.length
    · rw [if_pos hi] at h
      have := puts_len (is := is) (os := os) h
      rwa [List.length_set] at this
    · rw [if_neg hi] at h
      cases h
      rfl
theorem bindT_len {tg : Tg} {d : Mp.D} {r : Out Fl} {e2 : Env} (h : bindT tg d env = (r, e2)) : e2.length = env.length := by
  cases tg with
  | nm i =>
    simp only [bindT, putV] at h
    split at h <;> cases h
    · exact List.length_set
    · rfl
  | tp is =>
    cases d <;> simp only [bindT] at h <;> first | (cases h; rfl) | skip
    split at h
    · exact puts_len h
    · cases h
      rfl
/-- no exception may come -/
def noX {α : Type} (m : M α) : M α := fun env => match m env with
  | (.ex _, e) => (.bad, e)
  | r => r
abbrev WF : WX := fun _ _ _ _ => False
theorem Fin.noX {α β : Type} {R : RR α β} {W' : WX} {Q : β → Hp → Prop} {U : Uset} {m : M α} (q : Fin c J R W S H U σ Q (noX m env)) : Fin c J R WF S H U σ Q (m env) := by
  unfold Mp.noX at q
  cases e : m env with
  | mk r env1 =>
    rw [e] at q
    cases r with
    | ok a => exact q
    | ex x => exact q.elim
    | bad => exact q
theorem wipe_eq {vs : List Nat} {n : Nat} {σ σ' : L2.St} (hn : σ.length = n) (hl : σ'.length = σ.length) (k : Keep ((List.range n).filter fun i => decide (i ∉ vs)) σ σ') : L2.wipe σ' vs = L2.wipe σ vs := by
  refine List.ext_getElem? fun i => ?_
  by_cases hi : i < σ.length
  · by_cases hv : i ∈ vs
    · rw [wipe_in hi hv, wipe_in (by rw [hl]; exact hi) hv]
    · rw [wipe_outN hv, wipe_outN hv]
      exact k i (List.mem_filter.mpr ⟨List.mem_range.mpr (by rw [← hn]; exact hi), by simpa using hv⟩)
  · rw [List.getElem?_eq_none (by rw [wipe_length]; omega), List.getElem?_eq_none (by rw [wipe_length]; omega)]
theorem wipe_wipe {σ : L2.St} {vs : List Nat} : L2.wipe (L2.wipe σ vs) vs = L2.wipe σ vs := by
  refine List.ext_getElem? fun i => ?_
  by_cases hi : i < σ.length
  · by_cases hv : i ∈ vs
    · rw [wipe_in hi hv, wipe_in (by rw [wipe_length]; exact hi) hv]
    · rw [wipe_outN hv]
  · rw [List.getElem?_eq_none (by rw [wipe_length, wipe_length]; omega), List.getElem?_eq_none (by rw [wipe_length]; omega)]
def lcL (vs : List Nat) (tg : Tg) (t : M Bool) (m : M O) : List Mp.D → M (List O)
  | [] => ret []
  | d :: ds => bnd (bindT tg d) fun fl => match fl with
    | .nx => bnd (noX t) fun b => if b then bnd (noX m) fun o env => bnd (lcL vs tg t m ds) (fun os => ret (o :: os)) (wipeE env vs) else fun env => lcL vs tg t m ds (wipeE env vs)
    | _ => bad
def lcM (vs : List Nat) (tg : Tg) (t : M Bool) (m : M O) (ms : M (List Mp.D)) : M O :=
  bnd ms fun ds => bnd (shVs vs) fun _ env => if ds.length ≤ lim then
    match lcL vs tg t m ds (wipeE env vs) with
    | (.ok os, env1) => (.ok (.lst os), backE env env1 vs)
    | (_, env1) => (.bad, env1)
  else (.bad, env)
theorem Fin.thru {α β : Type} {R : RR α β} {m : M α} {Q1 : β → Hp → Prop} (hx : (Mp.noX m env).1 ≠ Out.bad)
    (k : ∀ a env1 b S1 H1 F1 A1, m env = (.ok a, env1) → Good c J σ H1 S1 env1 F1 → Step S H (un F) S1 H1 (plus (un F1) A1) → R S1 H1 a b A1 → Apart A1 (un F1) → Q1 b H1) : Fin c J R WF S H (un F) σ Q1 (m env) := by
  unfold Mp.noX at hx
  cases e : m env with
  | mk r env1 =>
    rw [e] at hx
    cases r with
    | ok a => exact fun b S1 H1 F1 A1 g1 s1 r1 ap => k a env1 b S1 H1 F1 A1 e g1 s1 r1 ap
    | ex x => exact (hx rfl).elim
    | bad => exact (hx rfl).elim
/-- the whole, acc made already -/
def lcE (vs : List Nat) (env0 : Env) (acc : List O) : Out (List O) × Env → Out O × Env
  | (.ok os, e) => (.ok (.lst (acc ++ os)), backE env0 e vs)
  | (_, e) => (.bad, e)
theorem lcE_bnd {vs : List Nat} {env0 : Env} {acc : List O} {α : Type} {m : M α} {f : α → M (List O)} {a : α} {env1 : Env} (h : m env = (.ok a, env1)) : lcE vs env0 acc (bnd m f env) = lcE vs env0 acc (f a env1) := by
  simp only [bnd, h]
theorem lcE_bad {vs : List Nat} {env0 : Env} {acc : List O} {α : Type} {m : M α} {f : α → M (List O)} (h : (m env).1 = .bad) : (lcE vs env0 acc (bnd m f env)).1 = .bad := by
  unfold bnd
  cases e : m env with
  | mk r env1 =>
    rw [e] at h
    cases h
    rfl
theorem lcE_cons {vs : List Nat} {env0 : Env} {acc : List O} {m : M (List O)} {o : O} : lcE vs env0 acc (bnd m (fun os => ret (o :: os)) env) = lcE vs env0 (acc ++ [o]) (m env) := by
  unfold bnd
  cases e : m env with
  | mk r env1 =>
    cases r with
    | ok os => simp [lcE, ret]
    | ex x => rfl
    | bad => rfl
theorem fin_bad {α β : Type} {R : RR α β} {U : Uset} {Q : β → Hp → Prop} {r : Out α × Env} (q : Fin c J R W S H U σ Q r) : r.1 ≠ .bad := fun h => by
  obtain ⟨r, e⟩ := r
  cases h
  exact q
theorem noX_ok {α : Type} {m : M α} {a : α} {env1 : Env} (h : m env = (.ok a, env1)) : noX m env = (.ok a, env1) := by
  unfold noX
  rw [h]
/-- what the turns keep: the list D so far -/
structure LcI (c : Wd) (J : Hp → Prop) (S H : Hp) (env : Env) (F : Nat → List Addr) (σ : L2.St) (D : Addr) (acc : List O) (av : List V) (B : List Addr) : Prop where
  g : Good c J σ H S env F
  d : H D = some (.lst av)
  s : S D = none
  r : Ros c S H acc av B
  ap : Apart (D :: B) (un F)
theorem LcI.step {acc : List O} {av : List V} {S1 H1 : Hp} {env1 : Env} {F1 : Nat → List Addr} {σ1 : L2.St} (i : LcI c J S H env F σ D acc av B) (g1 : Good c J σ1 H1 S1 env1 F1) (s : Step S H (un F) S1 H1 (plus (un F1) A)) :
    LcI c J S1 H1 env1 F1 σ1 D acc av B ∧ ∀ a ∈ D :: B, ¬ plus (un F1) A a := by
  have hD := s.keep D _ i.d (i.ap.out D List.mem_cons_self)
  have held : ∀ a ∈ B, ∃ o, H a = some o := fun a ha => (Ros.held acc av B i.r a ha).1
  have oB : ∀ a ∈ B, ¬ un F a := fun a ha => i.ap.out a (List.mem_cons_of_mem _ ha)
  have out := s.out held oB
  have all : ∀ a ∈ D :: B, ¬ plus (un F1) A a := fun a ha => by
    rcases List.mem_cons.mp ha with rfl | ha
    · exact hD.2.2
    · exact out a ha
  exact ⟨⟨g1, hD.1, hD.2.1.trans i.s, s.ros i.r oB, ⟨i.ap.nod, fun a ha z => all a ha (.inl z)⟩⟩, all⟩
theorem LcI.wipe {acc : List O} {av : List V} (i : LcI c J S H env F σ D acc av B) (vs : List Nat) : ∃ F', LcI c J S H (wipeE env vs) F' (L2.wipe σ vs) D acc av B ∧ ∀ a, un F' a → un F a := by
  obtain ⟨F', g', sub⟩ := i.g.wipe vs
  exact ⟨F', ⟨g', i.d, i.s, i.r, ⟨i.ap.nod, fun a ha z => i.ap.out a ha (sub a z)⟩⟩, sub⟩
theorem LcI.push {acc : List O} {av : List V} {o : O} {v : V} (wo : WdOk c J) (i : LcI c J S H env F σ D acc av B) (r : Ro c S H o v A) (ap : Apart A (un F)) (oA : ∀ a ∈ D :: B, a ∉ A) : LcI c J S (upd H D (.lst (av ++ [v]))) env F σ D (acc ++ [o]) (av ++ [v]) (B ++ A) := by
  have dB : D ∉ B := (List.nodup_cons.mp i.ap.nod).1
  have nB := (List.nodup_cons.mp i.ap.nod).2
  have up : ∀ {a : Addr}, a ≠ D → upd H D (.lst (av ++ [v])) a = H a := fun h => upd_ne h
  refine ⟨i.g.write wo i.d (fun z => z) i.s (i.ap.out D List.mem_cons_self), upd_same, i.s, ?_, ⟨?_, fun a ha => ?_⟩⟩
  · have r1 : Ros c S (upd H D (.lst (av ++ [v]))) acc av B := Ros.frame (Same.refl _) acc av B i.r fun a ha => ⟨up fun z => dB (by rw [← z]; exact ha), rfl⟩
    have r2 : Ro c S (upd H D (.lst (av ++ [v]))) o v A := Ro.frame (Same.refl _) o v A r fun a ha => ⟨up fun z => oA D List.mem_cons_self (by rw [← z]; exact ha), rfl⟩
    refine Ros.append r1 ?_
    simp only [Ros]
    exact ⟨v, [], A, [], rfl, by simp, r2, rfl, rfl⟩
  · refine List.nodup_cons.mpr ⟨fun z => ?_, nodup_app nB ap.nod fun a ha => oA a (List.mem_cons_of_mem _ ha)⟩
    rcases List.mem_append.mp z with z | z
    · exact dB z
    · exact oA D List.mem_cons_self z
  · rcases List.mem_cons.mp ha with rfl | ha
    · exact i.ap.out _ List.mem_cons_self
    · rcases List.mem_append.mp ha with ha | ha
      · exact i.ap.out a (List.mem_cons_of_mem _ ha)
      · exact ap.out a ha
def Tg.ins (vs : List Nat) : Tg → Bool
  | .nm i => decide (i ∈ vs)
  | .tp is => is.all fun i => decide (i ∈ vs)
theorem ins_out {vs : List Nat} {n : Nat} {tg : Tg} (h : tg.ins vs = true) : tg.out ((List.range n).filter fun i => decide (i ∉ vs)) := by
  have one : ∀ i, i ∈ vs → i ∉ (List.range n).filter fun i => decide (i ∉ vs) := fun i hi z => by
    have := (List.mem_filter.mp z).2
    simp at this
    exact this hi
  cases tg with
  | nm i => exact one i (by simpa [Tg.ins] using h)
  | tp is => exact fun i hi => one i (by simpa using (List.all_eq_true.mp h) i hi)
theorem lc_read {tg : Tg} {t : M Bool} {m : M O} {ms : M (List Mp.D)} {vs : List Nat} {Q : VK} (wo : WdOk c J) (hv : tg.ins vs = true) (h : tO c J W (lcM vs tg t m ms) σ H Q) : tLc (tI c J W ms) (gOf c.K tg) (tB c J WF t) (tO c J WF m) vs σ H Q := by
  obtain ⟨env, S, F, g, q⟩ := h
  refine ⟨env, S, F, g, Fin.seq0 q fun ds env1 I S1 H1 F1 A1 e1 g1 s1 r1 ap1 q => ?_⟩
  obtain ⟨w, rfl⟩ := r1
  intro D hD
  obtain ⟨env2, S2, F2, q2, g2, s2, all, _⟩ := shVs_ok vs g1
  simp only [bnd, q2] at q
  by_cases hl : ds.length ≤ lim
  case neg =>
    rw [if_neg hl] at q
    exact q.elim
  rw [if_pos hl] at q
  obtain ⟨g3, s3, ap3, _⟩ := new_own (x := .lst []) (A := []) wo g2 apart_nil (fun a h => absurd h (by simp)) hD
  have i3 : LcI c J S2 (upd H1 D (.lst [])) env2 F2 σ D [] [] [] := ⟨g3, upd_same, g2.sub.free hD, by simp only [Ros]; exact ⟨trivial, trivial⟩, ap3⟩
  obtain ⟨F4, i4, sub4⟩ := i3.wipe vs
  have q4 : Fin c J (RO c) W S2 (upd H1 D (.lst [])) (plus (un F4) [D]) σ Q (lcE vs env2 [] (lcL vs tg t m ds (wipeE env2 vs))) := by
    refine Fin.step (S := S1) (H := H1) (U := plus (un F1) []) ?_ (((s2.pend []).trans s3).post fun a z => z.elim (fun z => .inl (sub4 a z)) .inr)
    cases e : lcL vs tg t m ds (wipeE env2 vs) with
    | mk r e5 =>
      rw [e] at q
      cases r with
      | ok os => exact q
      | ex x => exact q
      | bad => exact q
  -- what holds at turn i
  refine ⟨fun i n H => n = ds.length - i ∧ i ≤ ds.length ∧ ∃ env5 S5 F5 acc av B, LcI c J S5 H env5 F5 (L2.wipe σ vs) D acc av B ∧ Same S2 S5 ∧ acc.length ≤ i ∧ Fin c J (RO c) W S5 H (plus (un F5) (D :: B)) σ Q (lcE vs env2 acc (lcL vs tg t m (ds.drop i) env5)), ⟨ds.length, rfl, Nat.zero_le _, _, S2, F4, [], [], [], i4, Same.refl _, Nat.le_refl _, q4⟩, ?_⟩
  rintro i n H5 ⟨rfl, hi, env5, S5, F5, acc, av, B, I5, h5, hacc, q5⟩
  have h15 : Same S1 S5 := s2.sh.trans h5
  by_cases hlt : i < ds.length
  · refine .inr ⟨w.goes i H5 hlt (h15.trans I5.g.sub), fun H' => ∃ env6 S6 F6 acc av B, LcI c J S6 H' env6 F6 (L2.wipe σ vs) D acc av B ∧ Same S2 S6 ∧ acc.length ≤ i + 1 ∧ Fin c J (RO c) W S6 H' (plus (un F6) (D :: B)) σ Q (lcE vs env2 acc (lcL vs tg t m (ds.drop (i + 1)) env6)), fun H' h => ⟨ds.length - (i + 1), by omega, rfl, hlt, h⟩, fun x H6 y => ?_⟩
    have hd : ds[i]? = some ds[i] := by simp [hlt]
    obtain ⟨S6, gr, hs6, r6⟩ := w.yields i ds[i] S5 H5 x H6 hd h15 I5.g.sub y
    rw [List.drop_eq_getElem_cons hlt] at q5
    have g6 := gr.good wo hs6 I5.g
    have st6 : Step S5 H5 (un F5) S6 H6 (un F5) := (gr.step (A := []) fun a h => absurd h (by simp)).post fun a h => .inl h
    have q6 : Fin c J (RO c) W S6 H6 (plus (un F5) (D :: B)) σ Q (lcE vs env2 acc (lcL vs tg t m (ds[i] :: ds.drop (i + 1)) env5)) := Fin.step q5 (st6.pend _)
    have I6 : LcI c J S6 H6 env5 F5 (L2.wipe σ vs) D acc av B := (I5.step (A := []) g6 (st6.post fun a h => plus_nil.mp h)).1
    refine tgt_ok (D := ⟨_, fun _ _ => True, fun _ _ => True, fun _ _ => True⟩) (W := WF) (P := (List.range σ.length).filter fun i => decide (i ∉ vs)) (ins_out hv) g6 r6 ?_
    cases e7 : bindT tg ds[i] env5 with
    | mk r7 env7 =>
      rcases bindT_nx e7 with rfl | rfl
      case inr => exact (fin_bad q6 (lcE_bad (by rw [e7]))).elim
      rw [show lcL vs tg t m (ds[i] :: ds.drop (i + 1)) env5 = bnd (bindT tg ds[i]) _ env5 from rfl, lcE_bnd e7] at q6
      intro σ7 S7 H7 F7 k7 g7 s7
      have eσ : L2.wipe σ7 vs = L2.wipe σ vs := by
        have h := wipe_eq (vs := vs) (n := σ.length) (σ := L2.wipe σ vs) (σ' := σ7) (wipe_length _ _) (by rw [← g7.len, ← g6.len]; exact bindT_len e7) k7
        rw [h, wipe_wipe]
      have I7 : LcI c J S7 H7 env7 F7 σ7 D acc av B := (I6.step (A := []) g7 (s7.post fun a h => plus_nil.mp h)).1
      replace q6 := Fin.step q6 (s7.pend (D :: B))
      refine ⟨eσ, env7, S7, F7, g7, Fin.thru (fun z => fin_bad q6 (lcE_bad z)) fun b env8 b' S8 H8 F8 A8 e8 g8 s8 r8 ap8 => ?_⟩
      obtain ⟨rfl, rfl⟩ := r8
      rw [lcE_bnd (noX_ok e8)] at q6
      have I8 : LcI c J S8 H8 env8 F8 σ7 D acc av B := (I7.step g8 s8).1
      replace q6 := Fin.step q6 ((s8.post fun a h => plus_nil.mpr h).pend (D :: B))
      cases b' with
      | false =>
        obtain ⟨F9, I9, sub9⟩ := I8.wipe vs
        rw [eσ] at I9
        exact ⟨_, S8, F9, acc, av, B, I9, (h5.trans gr.s).trans (s7.sh.trans s8.sh), by omega, Fin.pre q6 fun a z => z.elim (fun z => .inl (sub9 a z)) .inr⟩
      | true =>
        refine ⟨env8, S8, F8, g8, Fin.thru (fun z => fin_bad q6 (lcE_bad z)) fun o env9 v S9 H9 F9 A9 e9 g9 s9 r9 ap9 => ?_⟩
        have q6 := q6
        rw [if_pos rfl, lcE_bnd (noX_ok e9), lcE_cons] at q6
        obtain ⟨I9, out9⟩ := I8.step g9 s9
        have I10 := I9.push wo r9 ap9 fun a ha z => out9 a ha (.inr z)
        obtain ⟨F11, I11, sub11⟩ := I10.wipe vs
        rw [eσ] at I11
        have la := Ros.length I9.r
        refine ⟨av, I9.d, by rw [la, ← lim_eq]; omega, _, S9, F11, acc ++ [o], _, _, I11, (h5.trans gr.s).trans ((s7.sh.trans s8.sh).trans s9.sh), by rw [List.length_append]; simp; omega, ?_⟩
        refine Fin.step q6 (((s9.pend (D :: B)).trans (Step.write (.inr List.mem_cons_self))).post fun a z => ?_)
        rcases z with z | z
        · exact .inl (.inl (sub11 a z))
        · rcases List.mem_cons.mp z with rfl | z
          · exact .inr List.mem_cons_self
          · rcases List.mem_append.mp z with z | z
            · exact .inr (List.mem_cons_of_mem _ z)
            · exact .inl (.inr z)
  · have e : i = ds.length := by omega
    subst e
    rw [List.drop_length] at q5
    have q5 : Fin c J (RO c) W S5 H5 (plus (un F5) (D :: B)) σ Q (.ok (.lst (acc ++ [])), backE env2 env5 vs) := q5
    rw [List.append_nil] at q5
    refine .inl ⟨w.stops H5 (h15.trans I5.g.sub), q5 (.ref D) S5 H5 F5 (D :: B) (I5.g.unwipe g2 all h5) Step.refl ?_ I5.ap⟩
    simp only [RO, Ro]
    exact ⟨D, av, B, rfl, rfl, I5.d, I5.s, I5.r⟩
theorem pe_lcM {elt te iter : Expr} {ifs : List Expr} {scope : Scope} {own : List (Str × Nat)} {pos : Pos} {tg : Tg} {t : M Bool} {m : M O} {ms : M (List Mp.D)} (wo : WdOk c J) (hc : X.calm = true) (hN : X.N.Nodup) (hi : PIs c J W X te iter ms) (ok : BlkOk X.N X.env.scope scope own)
    (hv : tg.ins (own.map (·.2)) = true) (hg : ∀ (s : Shared) (H : Hp) (C : Addr) (cl : List (Str × Addr)) (fp : List Addr), TgX (X.blk s H scope (compEnvC scope cl C X.env) fp) c.K te tg)
    (ht : ∀ (s : Shared) (H : Hp) (C : Addr) (cl : List (Str × Addr)) (fp : List Addr), PTs (X.blk s H scope (compEnvC scope cl C X.env) fp) ifs (tB c J WF t))
    (he : ∀ (s : Shared) (H : Hp) (C : Addr) (cl : List (Str × Addr)) (fp : List Addr), PE (X.blk s H scope (compEnvC scope cl C X.env) fp) elt (tO c J WF m)) (hs : ∀ x, foldedSetIterable iter X.env x = pure x) :
    PE X (.ListComp elt [⟨te, iter, ifs, 0⟩] scope pos) (tO c J W (lcM (own.map (·.2)) tg t m ms)) := by
  refine PE.mono (pe_lc hc hN hi.pi ok (fun s H C cl fp => (hg s H C cl fp).pg) ht he hs) fun σ H Q q => lc_read wo hv q
theorem ps_setLcM {i : Nat} {y : Str} {py : Pos} {elt te iter : Expr} {ifs : List Expr} {scope : Scope} {own : List (Str × Nat)} {pos spos : Pos} {tg : Tg} {t : M Bool} {m : M O} {ms : M (List Mp.D)} {P : List Nat} (wo : WdOk c J) (hc : X.calm = true) (hN : X.N.Nodup) (hy : X.N[i]? = some y) (hyl : X.env.scope.names.lookup y = some .local) (hiP : i ∉ P)
    (hsw : swapsWith (.ListComp elt [⟨te, iter, ifs, 0⟩] scope pos) (some (.Name y py)) spos.line X.env = pure true) (hi : PIs c J W X te iter ms) (ok : BlkOk X.N X.env.scope scope own)
    (hv : tg.ins (own.map (·.2)) = true) (hg : ∀ (s : Shared) (H : Hp) (C : Addr) (cl : List (Str × Addr)) (fp : List Addr), TgX (X.blk s H scope (compEnvC scope cl C X.env) fp) c.K te tg)
    (ht : ∀ (s : Shared) (H : Hp) (C : Addr) (cl : List (Str × Addr)) (fp : List Addr), PTs (X.blk s H scope (compEnvC scope cl C X.env) fp) ifs (tB c J WF t))
    (he : ∀ (s : Shared) (H : Hp) (C : Addr) (cl : List (Str × Addr)) (fp : List Addr), PE (X.blk s H scope (compEnvC scope cl C X.env) fp) elt (tO c J WF m)) (hs : ∀ x, foldedSetIterable iter X.env x = pure x) :
    PS X (.Assign [.Name y py] (.ListComp elt [⟨te, iter, ifs, 0⟩] scope pos) spos) (tS c J W P (setM i (lcM (own.map (·.2)) tg t m ms))) := by
  refine PS.mono (ps_setLc hc hN hy hyl hsw hi.pi ok (fun s H C cl fp => (hg s H C cl fp).pg) ht he hs) fun De σ H ⟨env, S, F, g, q⟩ => ?_
  exact lc_read wo hv ⟨env, S, F, g, FinS.seq q fun o env1 v S1 H1 F1 A1 e1 g1 s1 r1 ap1 q => put_ok hiP g1 r1 ap1 q⟩
/-- no test; one test -/
theorem pts_noM : PTs X [] (tB c J WF (ret true)) := ⟨fun pins s σ H Q I ⟨env, S, F, g, q⟩ => pts_nil.run pins s σ H Q I (Fin.okB g q)⟩
theorem pts_oneM {e : Expr} {t : M Bool} (h : PT X e (tB c J WF t)) : PTs X [e] (tB c J WF t) := pts_one h
end
end Mp
end
section
/-! Mp17: what one holds is changed. -/
namespace Mp
open PySem L2 PyProof.Rows
section
variable {α κ : Type} [DecidableEq κ]
/-- the first one at the key -/
def dset1 : List κ → List α → κ → α → List α
  | k :: ks, v :: vs, x, y => if k = x then y :: vs else v :: dset1 ks vs x y
  | _, vs, _, _ => vs
theorem dset1_length : ∀ (ks : List κ) (vs : List α) (x : κ) (y : α), (dset1 ks vs x y).length = vs.length
  | [], vs, x, y => rfl
  | k :: ks, [], x, y => rfl
  | k :: ks, v :: vs, x, y => by
    unfold dset1
    split
    · rfl
    · rw [List.length_cons, List.length_cons, dset1_length ks vs x y]
end
theorem repl_out {κ κ' : Type} [DecidableEq κ] [DecidableEq κ'] (f : κ → κ') (hf : ∀ a b, f a = f b → a = b) (x : κ) (y : V) : ∀ (ks : List κ) (vs : List V), x ∉ ks → (((ks.map f).zip vs).map fun kv => if kv.1 = f x then (kv.1, y) else kv) = (ks.map f).zip vs
  | [], vs, _ => by simp
  | k :: ks, [], _ => by simp
  | k :: ks, v :: vs, h => by
    have h1 : ¬ f k = f x := fun e => h (by rw [hf _ _ e]; exact List.mem_cons_self)
    rw [List.map_cons, List.zip_cons_cons, List.map_cons, if_neg h1, repl_out f hf x y ks vs fun z => h (List.mem_cons_of_mem _ z)]
theorem any_zip {κ κ' : Type} [DecidableEq κ] [DecidableEq κ'] (f : κ → κ') (hf : ∀ a b, f a = f b → a = b) (x : κ) : ∀ (ks : List κ) (vs : List V), ks.length = vs.length → ((ks.map f).zip vs).any (fun kv => decide (kv.1 = f x)) = decide (x ∈ ks)
  | [], vs, _ => by simp
  | k :: ks, [], h => by simp at h
  | k :: ks, v :: vs, h => by
    rw [List.map_cons, List.zip_cons_cons, List.any_cons, any_zip f hf x ks vs (by simpa using h)]
    by_cases e : k = x
    · subst e
      simp
    · have e1 : ¬ f k = f x := fun z => e (hf _ _ z)
      have e2 : ¬ x = k := fun z => e z.symm
      simp [e1, e2]
theorem putK_old {κ κ' : Type} [DecidableEq κ] [DecidableEq κ'] (f : κ → κ') (hf : ∀ a b, f a = f b → a = b) (x : κ) (y : V) : ∀ (ks : List κ) (vs : List V), ks.length = vs.length → ks.count x = 1 → putK ((ks.map f).zip vs) (f x) y = (ks.map f).zip (dset1 ks vs x y) := by
  intro ks vs hl hc
  have hm : x ∈ ks := List.count_pos_iff.mp (by omega)
  unfold putK
  rw [any_zip f hf x ks vs hl, decide_eq_true hm, if_pos rfl]
  induction ks generalizing vs with
  | nil => simp at hc
  | cons k ks ih =>
    cases vs with
    | nil => simp at hl
    | cons v vs =>
      rw [List.map_cons, List.zip_cons_cons, List.map_cons]
      unfold dset1
      by_cases e : k = x
      · subst e
        rw [if_pos rfl, if_pos rfl]
        have h0 : k ∉ ks := fun z => by
          have := List.count_pos_iff.mpr z
          rw [List.count_cons_self] at hc
          omega
        rw [repl_out f hf k y ks vs h0]
        rfl
      · have e1 : ¬ f k = f x := fun z => e (hf _ _ z)
        have hc' : ks.count x = 1 := by rw [← hc, List.count_cons_of_ne e]
        rw [if_neg e1, if_neg e, List.zip_cons_cons, ih vs (by simpa using hl) hc' (List.count_pos_iff.mp (by omega))]
theorem putK_fresh {κ κ' : Type} [DecidableEq κ] [DecidableEq κ'] (f : κ → κ') (hf : ∀ a b, f a = f b → a = b) (x : κ) (y : V) (ks : List κ) (vs : List V) (hl : ks.length = vs.length) (hn : x ∉ ks) : putK ((ks.map f).zip vs) (f x) y = ((ks ++ [x]).map f).zip (vs ++ [y]) := by
  unfold putK
  rw [any_zip f hf x ks vs hl, decide_eq_false hn, if_neg Bool.false_ne_true, List.map_append, List.zip_append (by rw [List.length_map]; exact hl)]
  rfl
section
variable {c : Wd} {S H H2 : Hp} {κ : Type} [DecidableEq κ]
/-- a place among several -/
theorem Ros.lens : ∀ {os : List O} {vs : List V} {A : List Addr} {i : Nat} {o : O}, Ros c S H os vs A → os[i]? = some o → ∃ L As R w, A = L ++ As ++ R ∧ vs[i]? = some w ∧ Ro c S H o w As ∧
    ∀ H2 o2 w2 B, (∀ a ∈ L ++ R, H2 a = H a) → Ro c S H2 o2 w2 B → Ros c S H2 (os.set i o2) (vs.set i w2) (L ++ B ++ R)
  | [], vs, A, i, o, r, h => by simp at h
  | x :: xs, vs, A, 0, o, r, h => by
    simp only [Ros] at r
    obtain ⟨v, l, A1, A2, rfl, rfl, p, z⟩ := r
    simp at h
    subst h
    refine ⟨[], A1, A2, v, rfl, rfl, p, fun H2 o2 w2 B k r2 => ?_⟩
    simp only [List.set_cons_zero, Ros]
    exact ⟨w2, l, B, A2, rfl, rfl, r2, Ros.frame (Same.refl _) xs l A2 z fun a ha => ⟨k a (by simpa using ha), rfl⟩⟩
  | x :: xs, vs, A, i + 1, o, r, h => by
    simp only [Ros] at r
    obtain ⟨v, l, A1, A2, rfl, rfl, p, z⟩ := r
    obtain ⟨L, As, R, w, rfl, h1, h2, h3⟩ := Ros.lens z (by simpa using h)
    refine ⟨A1 ++ L, As, R, w, by simp only [List.append_assoc], by simpa using h1, h2, fun H2 o2 w2 B k r2 => ?_⟩
    have r3 := h3 H2 o2 w2 B (fun a ha => k a (by simp only [List.append_assoc, List.mem_append] at ha ⊢; exact .inr ha)) r2
    simp only [List.set_cons_succ, Ros]
    refine ⟨v, l.set i w2, A1, L ++ B ++ R, rfl, by simp only [List.append_assoc], ?_, r3⟩
    exact Ro.frame (Same.refl _) x v A1 p fun a ha => ⟨k a (by simp only [List.append_assoc, List.mem_append]; exact .inl ha), rfl⟩
/-- .. by a key -/
theorem Ros.klens (x : κ) : ∀ {ks : List κ} {os : List O} {vs : List V} {A : List Addr}, Ros c S H os vs A → ks.length = os.length → x ∈ ks → ∃ L As R w o, A = L ++ As ++ R ∧ dget ks vs x = some w ∧ dget ks os x = some o ∧ Ro c S H o w As ∧
    ∀ H2 o2 w2 B, (∀ a ∈ L ++ R, H2 a = H a) → Ro c S H2 o2 w2 B → Ros c S H2 (dset1 ks os x o2) (dset1 ks vs x w2) (L ++ B ++ R)
  | [], os, vs, A, r, hl, hx => by simp at hx
  | k :: ks, [], vs, A, r, hl, hx => by simp at hl
  | k :: ks, y :: os, vs, A, r, hl, hx => by
    simp only [Ros] at r
    obtain ⟨v, l, A1, A2, rfl, rfl, p, z⟩ := r
    unfold dget
    by_cases e : k = x
    · refine ⟨[], A1, A2, v, y, rfl, by rw [if_pos e], by rw [if_pos e], p, fun H2 o2 w2 B m r2 => ?_⟩
      unfold dset1
      rw [if_pos e, if_pos e]
      simp only [Ros]
      exact ⟨w2, l, B, A2, rfl, rfl, r2, Ros.frame (Same.refl _) os l A2 z fun a ha => ⟨m a (by simpa using ha), rfl⟩⟩
    · have hx' : x ∈ ks := (List.mem_cons.mp hx).elim (fun z => absurd z.symm e) fun z => z
      obtain ⟨L, As, R, w, o, rfl, h1, h2, h3, h4⟩ := Ros.klens x z (by simpa using hl) hx'
      refine ⟨A1 ++ L, As, R, w, o, by simp only [List.append_assoc], by rw [if_neg e]; exact h1, by rw [if_neg e]; exact h2, h3, fun H2 o2 w2 B m r2 => ?_⟩
      have r3 := h4 H2 o2 w2 B (fun a ha => m a (by simp only [List.append_assoc, List.mem_append] at ha ⊢; exact .inr ha)) r2
      unfold dset1
      rw [if_neg e, if_neg e]
      simp only [Ros]
      refine ⟨v, _, A1, L ++ B ++ R, rfl, by simp only [List.append_assoc], ?_, r3⟩
      exact Ro.frame (Same.refl _) y v A1 p fun a ha => ⟨m a (by simp only [List.append_assoc, List.mem_append]; exact .inl ha), rfl⟩
end
/-- an operation r on what is held, f on data: one object is written -/
def MutR (c : Wd) (r : V → List V → Hp → VK → Prop) (f : O → List O → Option (O × O)) : Prop :=
  ∀ (S H : Hp) (o : O) (os : List O) (o' res : O) (w : V) (A B : List Addr) (vs : List V) (Q : VK), f o os = some (o', res) → Ro c S H o w A → Ros c S H os vs B → (A ++ B).Nodup → Same S H →
    (∀ a x y u A' R, a ∈ A → H a = some x → ¬ fixO x → Ro c S (upd H a y) o' w A' → Ro c S (upd H a y) res u R → (A' ++ R).Nodup → (∀ b ∈ A' ++ R, b ∈ A ++ B) → Q u (upd H a y)) → r w vs H Q
section
variable {c : Wd}
def appF : O → List O → Option (O × O)
  | .lst os, [y] => if os.length < lim then some (.lst (os ++ [y]), .sh .non) else none
  | _, _ => none
theorem mut_app : MutR c rAppend appF := by
  intro S H o os o' res w A B vs Q e r rs nd hs q
  match o, os, e with
  | .lst xs, [y], e =>
    simp only [appF] at e
    split at e
    · rename_i hl
      cases e
      simp only [Ro] at r
      obtain ⟨a, ws, A0, rfl, rfl, ha, hS, z⟩ := r
      have rs0 := rs
      simp only [Ros] at rs
      obtain ⟨v, l, B1, B2, rfl, rfl, r1, rfl, rfl⟩ := rs
      have nd1 := nd
      rw [List.append_nil] at nd rs0 q
      have naA : a ∉ A0 := fun z => (List.nodup_cons.mp (List.nodup_append.mp nd).1).1 z
      have naB : a ∉ B1 := fun z => (List.nodup_append.mp nd).2.2 a List.mem_cons_self a z rfl
      refine ⟨a, ws, v, rfl, rfl, ha, by rw [z.length, ← lim_eq]; exact hl, q a _ _ .non (a :: (A0 ++ B1)) [] List.mem_cons_self ha (fun z => z) ?_ (by simp only [Ro, Rep]; exact ⟨trivial, trivial⟩) (by rw [List.append_nil]; simpa using nd) (by simp)⟩
      simp only [Ro]
      exact ⟨a, _, A0 ++ B1, rfl, rfl, upd_same, hS, Ros.append (Ros.frame (Same.refl _) xs ws A0 z fun b hb => ⟨upd_ne fun e => naA (e ▸ hb), rfl⟩) (Ros.frame (Same.refl _) [y] [v] B1 rs0 fun b hb => ⟨upd_ne fun e => naB (e ▸ hb), rfl⟩)⟩
    · cases e
/-- the last one, and what is left -/
def popF : O → List O → Option (O × O)
  | .lst os, [] => match os.getLast? with
    | some y => some (.lst os.dropLast, y)
    | none => none
  | _, _ => none
theorem Ros.last {S H : Hp} {x : O} : ∀ {os : List O} {vs : List V} {A : List Addr}, Ros c S H (os ++ [x]) vs A → ∃ ws v A1 A2, vs = ws ++ [v] ∧ A = A1 ++ A2 ∧ Ros c S H os ws A1 ∧ Ro c S H x v A2
  | [], vs, A, r => by
    simp only [List.nil_append, Ros] at r
    obtain ⟨v, l, A1, A2, rfl, rfl, p, rfl, rfl⟩ := r
    exact ⟨[], v, [], A1, rfl, by simp, by simp only [Ros]; exact ⟨trivial, trivial⟩, p⟩
  | y :: os, vs, A, r => by
    simp only [List.cons_append, Ros] at r
    obtain ⟨v, l, A1, A2, rfl, rfl, p, z⟩ := r
    obtain ⟨ws, v', B1, B2, rfl, rfl, z1, z2⟩ := Ros.last z
    exact ⟨v :: ws, v', A1 ++ B1, B2, rfl, by simp, by simp only [Ros]; exact ⟨v, ws, A1, B1, rfl, rfl, p, z1⟩, z2⟩
theorem mut_pop : MutR c rPop popF := by
  intro S H o os o' res w A B vs Q e r rs nd hs q
  match o, os, e with
  | .lst xs, [], e =>
    simp only [popF] at e
    cases hx : xs.getLast? with
    | none => rw [hx] at e; cases e
    | some y =>
      rw [hx] at e
      cases e
      have ex : xs = xs.dropLast ++ [res] := by
        obtain ⟨h1, h2⟩ := List.getLast?_eq_some_iff.mp hx
        rw [h2]
        simp
      simp only [Ro] at r
      obtain ⟨a, ws, A0, rfl, rfl, ha, hS, z⟩ := r
      simp only [Ros] at rs
      obtain ⟨rfl, rfl⟩ := rs
      rw [ex] at z
      obtain ⟨us, v, A1, A2, rfl, rfl, z1, z2⟩ := z.last
      rw [List.append_nil] at nd q
      have na : a ∉ A1 ++ A2 := (List.nodup_cons.mp nd).1
      have fr : ∀ {x : HO} {b : Addr}, b ∈ A1 ++ A2 → upd H a x b = H b := fun hb => upd_ne fun e => na (e ▸ hb)
      refine ⟨a, us ++ [v], v, rfl, rfl, ha, by simp, ?_⟩
      rw [List.dropLast_concat]
      refine q a _ _ v (a :: A1) A2 List.mem_cons_self ha (fun z => z) ?_ (Ro.frame (Same.refl _) res v A2 z2 fun b hb => ⟨fr (List.mem_append_right _ hb), rfl⟩) (by simpa using nd) (by simp)
      simp only [Ro]
      exact ⟨a, us, A1, rfl, rfl, upd_same, hS, Ros.frame (Same.refl _) _ us A1 z1 fun b hb => ⟨fr (List.mem_append_left _ hb), rfl⟩⟩
/-! ### o[k] = v -/
def MutS (c : Wd) (t : TSet) (f : O → D → O → Option O) : Prop :=
  ∀ (S H : Hp) (o : O) (d : D) (p o' : O) (w kv pv : V) (A B : List Addr) (Q : Hp → Prop), f o d p = some o' → Ro c S H o w A → Rep c S d kv → Ro c S H p pv B → (A ++ B).Nodup → Same S H →
    (∀ a x y A', a ∈ A → H a = some x → ¬ fixO x → Ro c S (upd H a y) o' w A' → A'.Nodup → (∀ b ∈ A', b ∈ A ++ B) → Q (upd H a y)) → t w kv pv H Q
def dputK {κ : Type} [DecidableEq κ] (ks : List κ) (x : κ) : List κ := if x ∈ ks then ks else ks ++ [x]
def dputV {κ : Type} [DecidableEq κ] (ks : List κ) (os : List O) (x : κ) (y : O) : Option (List O) := if x ∈ ks then (if ks.count x = 1 then some (dset1 ks os x y) else none) else if ks.length < lim then some (os ++ [y]) else none
def setF : O → D → O → Option O
  | .lst xs, .int i, p => (ixN xs.length i).map fun j => .lst (xs.set j p)
  | .dK ks xs, d, p => (keyD d).bind fun k => if ks.length < lim then (dputV ks xs k p).map fun ys => .dK (dputK ks k) ys else none
  | .dT ks xs, .tup ys, p => (keysD ys).bind fun k => if ks.length < lim then (dputV ks xs k p).map fun zs => .dT (dputK ks k) zs else none
  | _, _, _ => none
theorem PSet.cases {X : Cx} {t' : TSet} (k : ∀ o i v H Q, t' o i v H Q → ∃ t, PSet X t ∧ t o i v H Q) : PSet X t' := by
  intro pins s σ H o i v ov iv u Q I ro ri rv h
  obtain ⟨t, ht, h⟩ := k o i v H Q h
  exact ht pins s σ H o i v ov iv u Q I ro ri rv h
def rSet2 : TSet := fun o i v H Q => rSetL o i v H Q ∨ rSetD o i v H Q
theorem pset2 {X : Cx} (hu : X.A.units + 1 < cLine) : PSet X rSet2 := PSet.cases fun o i v H Q h => h.elim (fun h => ⟨_, set_list, h⟩) fun h => ⟨_, set_dict hu, h⟩
theorem seg_nodup {L As R B : List Addr} {a : Addr} (nd : ((a :: (L ++ As ++ R)) ++ B).Nodup) : (a :: (L ++ B ++ R)).Nodup ∧ (∀ b ∈ L ++ R, b ≠ a) ∧ ∀ b ∈ B, b ≠ a := by
  have sub : ((a :: (L ++ R)) ++ B).Sublist ((a :: (L ++ As ++ R)) ++ B) := by
    refine List.Sublist.append ?_ (List.Sublist.refl _)
    refine List.Sublist.cons₂ a ?_
    exact List.Sublist.append (List.sublist_append_left L As) (List.Sublist.refl R)
  have n1 := nd.sublist sub
  have pm : (L ++ B ++ R).Perm (L ++ R ++ B) := by
    rw [List.append_assoc, List.append_assoc]
    exact (List.perm_append_comm (l₁ := B) (l₂ := R)).append_left L
  have n2 : (a :: (L ++ B ++ R)).Nodup := (List.Perm.nodup_iff (List.Perm.cons a pm)).mpr n1
  refine ⟨n2, fun b hb e => ?_, fun b hb e => ?_⟩
  · exact (List.nodup_cons.mp n1).1 (List.mem_append_left _ (e ▸ hb))
  · exact (List.nodup_cons.mp n1).1 (List.mem_append_right _ (e ▸ hb))
theorem seg_mem {L As R B : List Addr} {a b : Addr} (hb : b ∈ a :: (L ++ B ++ R)) : b ∈ (a :: (L ++ As ++ R)) ++ B := by
  simp only [List.mem_cons, List.mem_append] at hb ⊢
  rcases hb with h | (h | h) | h
  · exact .inl (.inl h)
  · exact .inl (.inr (.inl (.inl h)))
  · exact .inr h
  · exact .inl (.inr (.inr h))
theorem dput_ros {κ κ' : Type} [DecidableEq κ] [DecidableEq κ'] (f : κ → κ') (hf : ∀ a b, f a = f b → a = b) {S H : Hp} {ks : List κ} {x : κ} {xs ys : List O} {p : O} {ws : List V} {pv : V} {a : Addr} {A0 B : List Addr} (hl : ks.length = ws.length) (z : Ros c S H xs ws A0) (e : dputV ks xs x p = some ys) (rp : Ro c S H p pv B)
    (nd : ((a :: A0) ++ B).Nodup) : ∃ us A1, putK ((ks.map f).zip ws) (f x) pv = ((dputK ks x).map f).zip us ∧ (dputK ks x).length = us.length ∧ (a :: A1).Nodup ∧ (∀ b ∈ a :: A1, b ∈ (a :: A0) ++ B) ∧ ∀ y, Ros c S (upd H a y) ys us A1 := by
  unfold dputV at e
  unfold dputK
  by_cases hx : x ∈ ks
  · rw [if_pos hx] at e ⊢
    split at e
    · rename_i hc
      cases e
      obtain ⟨L, As, R, w, o, rfl, h1, h2, h3, h4⟩ := z.klens x (by rw [hl, z.length]) hx
      obtain ⟨n1, n2, n3⟩ := seg_nodup nd
      exact ⟨_, L ++ B ++ R, putK_old f hf x pv ks ws hl hc, by rw [dset1_length, hl], n1, fun b hb => seg_mem hb, fun y => h4 _ p pv B (fun b hb => upd_ne (n2 b hb)) (Ro.frame (Same.refl _) p pv B rp fun b hb => ⟨upd_ne (n3 b hb), rfl⟩)⟩
    · cases e
  · rw [if_neg hx] at e ⊢
    split at e
    · cases e
      have na : ∀ b ∈ A0 ++ B, b ≠ a := fun b hb e => (List.nodup_cons.mp nd).1 (e ▸ hb)
      refine ⟨ws ++ [pv], A0 ++ B, putK_fresh f hf x pv ks ws hl hx, by simp [hl], nd, fun b hb => hb, fun y => ?_⟩
      refine Ros.append (Ros.frame (Same.refl _) xs ws A0 z fun b hb => ⟨upd_ne (na b (List.mem_append_left _ hb)), rfl⟩) ?_
      simp only [Ros]
      exact ⟨pv, [], B, [], rfl, by simp, Ro.frame (Same.refl _) p pv B rp fun b hb => ⟨upd_ne (na b (List.mem_append_right _ hb)), rfl⟩, rfl, rfl⟩
    · cases e
theorem mut_set : MutS c rSet2 setF := by
  intro S H o d p o' w kv pv A B Q e r rd rp nd hs q
  cases o with
  | lst xs =>
    cases d <;> simp only [setF, reduceCtorEq] at e
    rename_i i
    obtain ⟨j, hj, rfl⟩ := Option.map_eq_some_iff.mp e
    simp only [Ro] at r
    simp only [Rep] at rd
    subst rd
    obtain ⟨a, ws, A0, rfl, rfl, ha, hS, z⟩ := r
    have hlt : j < xs.length := (ixN_seq hj).2.1
    obtain ⟨L, As, R, w, rfl, h1, h2, h3⟩ := z.lens (show xs[j]? = some xs[j] by simp [hlt])
    obtain ⟨n1, n2, n3⟩ := seg_nodup nd
    refine .inl ⟨a, ws, i, j, rfl, rfl, ha, by rw [z.length]; exact hj, q a _ _ (a :: (L ++ B ++ R)) List.mem_cons_self ha (fun z => z) ?_ n1 fun b hb => seg_mem hb⟩
    simp only [Ro]
    exact ⟨a, _, L ++ B ++ R, rfl, rfl, upd_same, hS, h3 _ p pv B (fun b hb => upd_ne (n2 b hb)) (Ro.frame (Same.refl _) p pv B rp fun b hb => ⟨upd_ne (n3 b hb), rfl⟩)⟩
  | dK ks xs =>
    have e : (keyD d).bind (fun k => if ks.length < lim then (dputV ks xs k p).map fun ys => O.dK (dputK ks k) ys else none) = some o' := by
      cases d <;> exact e
    obtain ⟨k, hk, e⟩ := Option.bind_eq_some_iff.mp e
    split at e
    · rename_i hl
      obtain ⟨ys, hy, rfl⟩ := Option.map_eq_some_iff.mp e
      simp only [Ro] at r
      obtain ⟨a, ws, A0, rfl, rfl, ha, hS, hlw, z⟩ := r
      obtain ⟨us, A1, e1, e2, n1, n2, z2⟩ := dput_ros Kb.key (fun _ _ => Kb.key_inj) hlw z hy rp nd
      refine .inr ⟨a, _, rfl, .inl ⟨_, k.key, ha, keyD_rep hk rd, ?_, rfl⟩, ?_⟩
      · rw [List.length_zip, List.length_map, ← hlw, Nat.min_self, ← lim_eq]
        exact hl
      · refine q a _ _ (a :: A1) List.mem_cons_self ha (fun z => z) ?_ n1 n2
        simp only [Ro]
        exact ⟨a, us, A1, rfl, rfl, by rw [upd_same, e1], hS, e2, z2 _⟩
    · cases e
  | dT ks xs =>
    cases d <;> simp only [setF, reduceCtorEq] at e
    rename_i es
    obtain ⟨k, hk, e⟩ := Option.bind_eq_some_iff.mp e
    split at e
    · rename_i hl
      obtain ⟨ys, hy, rfl⟩ := Option.map_eq_some_iff.mp e
      simp only [Ro] at r
      simp only [Rep] at rd
      obtain ⟨a, ws, A0, rfl, rfl, ha, hS, hlw, z⟩ := r
      obtain ⟨b, ts, rfl, hb, rt⟩ := rd
      obtain ⟨us, A1, e1, e2, n1, n2, z2⟩ := dput_ros (fun k : List Kb => k.map Kb.key) (fun _ _ => keys_inj) hlw z hy rp nd
      refine .inr ⟨a, _, rfl, .inr ⟨_, k.map Kb.key, b, ha, rfl, by rw [← keysD_rep hk rt]; exact hs _ _ hb, ?_, rfl⟩, ?_⟩
      · rw [List.length_zip, List.length_map, ← hlw, Nat.min_self, ← lim_eq]
        exact hl
      · refine q a _ _ (a :: A1) List.mem_cons_self ha (fun z => z) ?_ n1 n2
        simp only [Ro]
        exact ⟨a, us, A1, rfl, rfl, by rw [upd_same, e1], hS, e2, z2 _⟩
    · cases e
  | _ => simp only [setF, reduceCtorEq] at e
end
end Mp
end
section
/-! Mp18: changes by names; dict displays. -/
namespace Mp
open PySem L2 PyProof.Rows
section
variable {c : Wd} {J : Hp → Prop} {W : WX} {X : Cx} {S H : Hp} {σ : L2.St} {env : Env} {F : Nat → List Addr} {i : Nat} {P : List Nat}
theorem nodup_apart {A B : List Addr} {U : Uset} (ap : Apart B U) (h : ∀ a ∈ A, U a) (nA : A.Nodup) : (A ++ B).Nodup := nodup_app nA ap.nod fun a ha hb => ap.out a hb (h a ha)
theorem un_of_upF {A : List Addr} {a : Addr} (h : un (upF F i A) a) : a ∈ A ∨ un (upF F i []) a := by
  rcases un_upF.mp h with h | ⟨j, hj, h⟩
  · exact .inl h
  · exact .inr (un_upF.mpr (.inr ⟨j, hj, h⟩))
theorem un_less {a : Addr} (h : un (upF F i []) a) : un F a := un_take.mpr (.inl h)
/-- what is held at the slot i was written -/
theorem put_back {o o' res : O} {v u : V} {A' R B : List Addr} {a : Addr} {x y : HO} {Q : VK} (wo : WdOk c J) (g : Good c J σ H S env F) (e : env[i]? = some (some o)) (hv : σ[i]? = some (some v)) (ap : Apart B (un F)) (held : ∀ a ∈ B, ∃ o, H a = some o) (sB : ∀ a ∈ B, S a = none) (ha : a ∈ F i ++ B) (hx : H a = some x) (nf : ¬ fixO x)
    (r1 : Ro c S (upd H a y) o' v A') (r2 : Ro c S (upd H a y) res u R) (nd : (A' ++ R).Nodup) (sub : ∀ b ∈ A' ++ R, b ∈ F i ++ B) (q : Fin c J (RO c) W S H (plus (un F) B) σ Q (.ok res, env.set i (some o'))) : Q u (upd H a y) := by
  obtain ⟨v', e1, r, g1, ap1⟩ := g.take e
  rw [hv] at e1
  cases e1
  have ua : plus (un F) B a := by
    rcases List.mem_append.mp ha with h | h
    · exact .inl ⟨i, h⟩
    · exact .inr h
  have na : ¬ un (upF F i []) a := fun z => by
    rcases List.mem_append.mp ha with h | h
    · exact ap1.out a h z
    · exact ap.out a h (un_less z)
  have sa : S a = none := by
    rcases List.mem_append.mp ha with h | h
    · exact (Ro.held o v _ r a h).2
    · exact sB a h
  have g2 := g1.write (y := y) wo hx nf sa na
  have out : ∀ b ∈ F i ++ B, ¬ un (upF F i []) b := fun b hb z => by
    rcases List.mem_append.mp hb with h | h
    · exact ap1.out b h z
    · exact ap.out b h (un_less z)
  have apA : Apart A' (un (upF (upF F i []) i [])) := by
    rw [upF_upF]
    exact ⟨(List.nodup_append.mp nd).1, fun b hb => out b (sub b (List.mem_append_left _ hb))⟩
  have g3 := g2.back hv r1 apA
  rw [upF_upF, List.set_set] at g3
  refine q u S (upd H a y) _ R g3 ((Step.write ua).post fun b hb => ?_) r2 ⟨(List.nodup_append.mp nd).2.1, fun b hb z => ?_⟩
  · rcases hb with hb | hb
    · rcases un_of_upF hb with h | h
      · rcases List.mem_append.mp (sub b (List.mem_append_left _ h)) with h | h
        · exact .inl ⟨i, h⟩
        · exact .inr h
      · exact .inl (un_less h)
    · rcases List.mem_append.mp (sub b (List.mem_append_right _ hb)) with h | h
      · exact .inl ⟨i, h⟩
      · exact .inr h
  · rcases un_of_upF z with h | h
    · exact (List.nodup_append.mp nd).2.2 b h b hb rfl
    · exact out b (sub b (List.mem_append_right _ hb)) h
theorem mut_done {r : V → List V → Hp → VK → Prop} {f : O → List O → Option (O × O)} {o o' res : O} {os : List O} {v : V} {vs : List V} {B : List Addr} {Q : VK} (wo : WdOk c J) (hm : MutR c r f) (g : Good c J σ H S env F) (e : env[i]? = some (some o)) (hv : σ[i]? = some (some v)) (rs : Ros c S H os vs B) (ap : Apart B (un F))
    (hf : f o os = some (o', res)) (q : Fin c J (RO c) W S H (plus (un F) B) σ Q (.ok res, env.set i (some o'))) : r v vs H Q := by
  obtain ⟨v', e1, ro⟩ := g.rep i o e
  rw [hv] at e1
  cases e1
  have nd : (F i ++ B).Nodup := nodup_apart ap (fun a ha => ⟨i, ha⟩) (g.nod i)
  refine hm S H o os o' res v (F i) B vs Q hf ro rs nd g.sub fun a x y u A' R ha hx nf r1 r2 nd2 sub => ?_
  exact put_back wo g e hv ap (fun a ha => (Ros.held os vs B rs a ha).1) (fun a ha => (Ros.held os vs B rs a ha).2) (List.mem_append_left _ ha) hx nf r1 r2 nd2 sub q
/-- x.m(..), x what a name holds -/
def isT (T : String) : O → Bool
  | .lst _ => T == "list"
  | .dK _ _ => T == "dict"
  | .dT _ _ => T == "dict"
  | _ => false
def mutN (T : String) (i : Nat) (f : O → List O → Option (O × O)) (ms : M (List O)) : M O := fun env => match env[i]? with
  | some (some o0) => if isT T o0 then bnd ms (fun os env => match env[i]? with
    | some (some o) => match f o os with
      | some (o', res) => (.ok res, env.set i (some o'))
      | none => (.bad, env)
    | _ => (.bad, env)) env else (.bad, env)
  | _ => (.bad, env)
theorem isT_ty {T : String} {o : O} {v : V} {A : List Addr} {K : PySem.W.Frag} (h : isT T o = true) (r : Ro c S H o v A) : tyV K T v H := by
  cases o <;> simp only [isT, beq_iff_eq, Bool.false_eq_true] at h <;> subst h <;> simp only [Ro] at r
  · obtain ⟨a, vs, B, rfl, _, h, _⟩ := r
    exact .inl ⟨rfl, vs, .of h⟩
  · obtain ⟨a, vs, B, rfl, _, h, _⟩ := r
    exact .inr (.inr (.inl ⟨rfl, .inl ⟨_, h⟩⟩))
  · obtain ⟨a, vs, B, rfl, _, h, _⟩ := r
    exact .inr (.inr (.inl ⟨rfl, .inr ⟨_, h⟩⟩))
theorem tbm_mutN {T : String} {r : V → List V → Hp → VK → Prop} {f : O → List O → Option (O × O)} {ms : M (List O)} {K : PySem.W.Frag} {Q : VK} (wo : WdOk c J) (hm : MutR c r f) (h : tO c J W (mutN T i f ms) σ H Q) : tBM K T r (tVar i) (tL c J W ms) σ H Q := by
  obtain ⟨env, S, F, g, q⟩ := h
  unfold mutN at q
  cases e : env[i]? with
  | none => rw [e] at q; exact q.elim
  | some z =>
    cases z with
    | none => rw [e] at q; exact q.elim
    | some o0 =>
      rw [e] at q
      obtain ⟨v, hv, r0⟩ := g.rep i o0 e
      by_cases ht : isT T o0 = true
      case neg =>
        rw [Bool.not_eq_true] at ht
        simp only [ht] at q
        exact q.elim
      simp only [ht, if_true] at q
      refine ⟨v, hv, isT_ty ht r0, env, S, F, g, Fin.seq0 q fun os env1 vs S1 H1 F1 A1 e1 g1 s1 r1 ap1 q => ?_⟩
      cases e2 : env1[i]? with
      | none =>
        simp only [e2] at q
        exact q.elim
      | some z =>
        cases z with
        | none =>
          simp only [e2] at q
          exact q.elim
        | some o =>
          simp only [e2] at q
          cases hf : f o os with
          | none =>
            simp only [hf] at q
            exact q.elim
          | some p =>
            obtain ⟨o', res⟩ := p
            simp only [hf] at q
            exact mut_done wo hm g1 e2 hv r1 ap1 hf q
theorem pe_mutN {T id : String} {r : V → List V → Hp → VK → Prop} {f : O → List O → Option (O × O)} {x name : Str} {p apos cpos : Pos} {e : Expr} {es : List Expr} {ms : M (List O)} (wo : WdOk c J) (hm : MutR c r f) (pa : PlainAttrs T) (slot : Slot T name id) (hty : typeOf (.builtin id) = pure (.type "method_descriptor")) (hr : MtR X id r)
    (hN : X.N[i]? = some x) (hv : Vis X.env.scope x) (hd : (x == ("__debug__" : Str)) = false) (hcd : (x == ("__classdict__" : Str)) = false) (ha : PA X (e :: es) (tL c J W ms))
    (hbase : attributeBase (.Name x p) name X.env (eval (.Name x p) X.env) = eval (.Name x p) X.env)
    (hfew : ((backTo cpos (starEach (e :: es) X.env)).all (fun x => !x.1) && (backToKw cpos (keywordEach [] X.env)).all (fun x => x.1.isSome)
      && decide ((e :: es).length + ([] : List Keyword).length + (if ([] : List Keyword).isEmpty then 0 else 1) < 30)) = true)
    (hline : (apos.endLine == cpos.line) = true) (hs : starEach (e :: es) X.env = (false, eval e X.env) :: starEach es X.env) (hpl : (backTo cpos (starEach es X.env)).any (·.1) = false) :
    PE X (.Call (.Attribute (.Name x p) name apos) (e :: es) [] cpos) (tO c J W (mutN T i f ms)) :=
  PE.mono (pe_bm pa slot hty hr (pe_var hN hv hd hcd) ha hbase hfew hline hs hpl) fun σ H Q q => tbm_mutN wo hm q
theorem pe_mutN0 {T id : String} {r : V → List V → Hp → VK → Prop} {f : O → List O → Option (O × O)} {x name : Str} {p apos cpos : Pos} (wo : WdOk c J) (hm : MutR c r f) (pa : PlainAttrs T) (slot : Slot T name id) (hty : typeOf (.builtin id) = pure (.type "method_descriptor")) (hr : MtR X id r)
    (hN : X.N[i]? = some x) (hv : Vis X.env.scope x) (hd : (x == ("__debug__" : Str)) = false) (hcd : (x == ("__classdict__" : Str)) = false)
    (hbase : attributeBase (.Name x p) name X.env (eval (.Name x p) X.env) = eval (.Name x p) X.env) (hline : (apos.endLine == cpos.line) = true) :
    PE X (.Call (.Attribute (.Name x p) name apos) [] [] cpos) (tO c J W (mutN T i f nilL)) :=
  PE.mono (pe_bm0 pa slot hty hr (pe_var hN hv hd hcd) hbase hline) fun σ H Q q => by
    have h := tbm_mutN (K := X.K) wo hm q
    obtain ⟨v, hv, ty, env, S, F, g, q⟩ := h
    exact ⟨v, hv, ty, q [] S H F [] g (Step.refl.post fun a h => plus_nil.mp h) (by simp only [ROs, Ros]; exact ⟨trivial, trivial⟩) apart_nil⟩
/-! ### x[k] = e -/
def setKM (i : Nat) (mk : M Mp.D) (m : M O) : M Fl := bnd m fun p env => match env[i]? with
  | some (some _) => bnd mk (fun k env => match env[i]? with
    | some (some o) => match setF o k p with
      | some o' => (.ok .nx, env.set i (some o'))
      | none => (.bad, env)
    | _ => (.bad, env)) env
  | _ => (.bad, env)
theorem FinS.seqP {α β : Type} {R : RR α β} {m : M α} {f : α → M Fl} {D : Ends} {B : List Addr} (q : FinS c J W P S H (plus (un F) B) D σ (bnd m f env)) {Q1 : β → Hp → Prop}
    (k : ∀ a env1 b S1 H1 F1 A1, m env = (.ok a, env1) → Good c J σ H1 S1 env1 F1 → Step S H (un F) S1 H1 (plus (un F1) A1) → R S1 H1 a b A1 → Apart A1 (un F1) →
      FinS c J W P S1 H1 (plus (plus (un F1) A1) B) D σ (f a env1) → Q1 b H1) : Fin c J R W S H (un F) σ Q1 (m env) := by
  unfold bnd at q
  cases e : m env with
  | mk r env1 =>
    rw [e] at q
    cases r with
    | ok a => exact fun b S1 H1 F1 A1 g1 s1 r1 ap => k a env1 b S1 H1 F1 A1 e g1 s1 r1 ap (FinS.step (r := f a env1) q Keep.refl (s1.pend B))
    | ex x => exact fun cls d S' H' F' g' s' r' => q cls d σ S' H' F' Keep.refl g' ((s'.pend B).post fun a h => .inl h) r'
    | bad => exact q
theorem ps_setKM {x : Str} {p tpos pos : Pos} {k e : Expr} {mk : M Mp.D} {m : M O} (wo : WdOk c J) (hu : X.A.units + 1 < cLine) (hN : X.N[i]? = some x) (hv : Vis X.env.scope x) (hd : (x == ("__debug__" : Str)) = false) (hcd : (x == ("__classdict__" : Str)) = false)
    (hk : PE X k (tD c J W mk)) (he : PE X e (tO c J W m)) (hs : swapsWithSole [.Subscript (.Name x p) k tpos] e pos.line X.env = pure false) (hw : swappedStores [.Subscript (.Name x p) k tpos] e X.env = pure none)
    (h1 : (assignEach [.Subscript (.Name x p) k tpos] X.env).map (fun x => x.2) = [assign (.Subscript (.Name x p) k tpos) X.env])
    (hass : ∀ v, assign (.Subscript (.Name x p) k tpos) X.env v = (do
      let ov ← holding [v] (eval (.Name x p) X.env)
      let iv ← holding [v, ov] (eval k X.env)
      standAt tpos
      holding [v, ov, iv] (setItem ov iv v)
      release [v, ov, iv] [])) :
    PS X (.Assign [.Subscript (.Name x p) k tpos] e pos) (tS c J W P (setKM i mk m)) := by
  refine PS.mono (ps_asg he (pg_sub (pe_var hN hv hd hcd) hk (pset2 hu) hass) hs hw h1) fun D σ H ⟨env, S, F, g, q⟩ => ?_
  refine ⟨env, S, F, g, FinS.seq q fun o1 env1 pv S1 H1 F1 A1 e1 g1 s1 r1 ap1 q => ?_⟩
  cases e2 : env1[i]? with
  | none =>
    simp only [e2] at q
    exact q.elim
  | some z =>
    cases z with
    | none =>
      simp only [e2] at q
      exact q.elim
    | some o0 =>
      simp only [e2] at q
      obtain ⟨v, hv, r0⟩ := g1.rep i o0 e2
      have held : ∀ a ∈ A1, ∃ o, H1 a = some o := fun a ha => (Ro.held o1 pv A1 r1 a ha).1
      refine ⟨v, hv, env1, S1, F1, g1, FinS.seqP q fun d env2 kv S2 H2 F2 A2 e3 g2 s2 r2 ap2 q => ?_⟩
      obtain ⟨r2, rfl⟩ := r2
      have rp := s2.ro r1 ap1.out
      have outB := s2.out held ap1.out
      cases e4 : env2[i]? with
      | none =>
        simp only [e4] at q
        exact q.elim
      | some z =>
        cases z with
        | none =>
          simp only [e4] at q
          exact q.elim
        | some o =>
          simp only [e4] at q
          cases hf : setF o d o1 with
          | none =>
            simp only [hf] at q
            exact q.elim
          | some o' =>
            simp only [hf] at q
            obtain ⟨v', e5, ro⟩ := g2.rep i o e4
            rw [hv] at e5
            cases e5
            have apB : Apart A1 (un F2) := ⟨ap1.nod, fun a ha z => outB a ha (.inl z)⟩
            have nd : (F2 i ++ A1).Nodup := nodup_apart apB (fun a ha => ⟨i, ha⟩) (g2.nod i)
            refine mut_set S2 H2 o d o1 o' v kv pv (F2 i) A1 _ hf ro r2 rp nd g2.sub fun a x y A' ha hx nf r3 nd3 sub3 => ?_
            refine put_back (J := J) (W := W) (res := .sh .non) (u := .non) (R := []) (Q := fun _ H' => D.nx σ H') wo g2 e4 hv apB (fun a ha => (Ro.held o1 pv A1 rp a ha).1) (fun a ha => (Ro.held o1 pv A1 rp a ha).2) (List.mem_append_left _ ha) hx nf r3 (by simp only [Ro, Rep]; exact ⟨trivial, trivial⟩) (by rw [List.append_nil]; exact nd3) (by rw [List.append_nil]; exact sub3) ?_
            exact fun b S' H' F' A'' g' s' _ _ => q σ S' H' F' Keep.refl g' ((s'.pre fun a h => h.elim (fun h => .inl (.inl h)) .inr).post fun a h => .inl h)
/-! ### x[k].m(..) -/
def putO : O → Mp.D → O → O
  | .lst xs, .int i, p => match ixN xs.length i with
    | some j => .lst (xs.set j p)
    | none => .lst xs
  | .dK ks xs, b, p => match keyD b with
    | some k => .dK ks (dset1 ks xs k p)
    | none => .dK ks xs
  | .dT ks xs, .tup ys, p => match keysD ys with
    | some k => .dT ks (dset1 ks xs k p)
    | none => .dT ks xs
  | o, _, _ => o
/-- what stands at a key of what is held: w, with its places As -/
structure LensAt (c : Wd) (S H : Hp) (o : O) (b : Mp.D) (v : V) (A : List Addr) (so : O) (w : V) (L As R : List Addr) : Prop where
  cut : A = L ++ As ++ R
  sub : Ro c S H so w As
  back : ∀ S2 H2 so2 B, Same S S2 → (∀ a ∈ L ++ R, H2 a = H a ∧ S2 a = S a) → Ro c S2 H2 so2 w B → Ro c S2 H2 (putO o b so2) v (L ++ B ++ R)
def nsh : O → Bool
  | .sh _ => false
  | _ => true
theorem set_self {α : Type} {xs : List α} {i : Nat} {x : α} (h : xs[i]? = some x) : xs.set i x = xs := by
  obtain ⟨h1, h2⟩ := List.getElem?_eq_some_iff.mp h
  rw [← h2]
  exact List.set_getElem_self h1
theorem dset1_self {κ α : Type} [DecidableEq κ] {x : κ} {y : α} : ∀ {ks : List κ} {vs : List α}, dget ks vs x = some y → dset1 ks vs x y = vs
  | [], vs, h => by simp [dget] at h
  | k :: ks, [], h => by simp [dget] at h
  | k :: ks, v :: vs, h => by
    unfold dget at h
    unfold dset1
    by_cases e : k = x
    · rw [if_pos e] at h ⊢
      cases h
      rfl
    · rw [if_neg e] at h ⊢
      rw [dset1_self h]
theorem dget_mem {κ α : Type} [DecidableEq κ] {x : κ} {y : α} : ∀ {ks : List κ} {vs : List α}, dget ks vs x = some y → x ∈ ks
  | [], vs, h => by simp [dget] at h
  | k :: ks, [], h => by simp [dget] at h
  | k :: ks, v :: vs, h => by
    unfold dget at h
    by_cases e : k = x
    · rw [e]
      exact List.mem_cons_self
    · rw [if_neg e] at h
      exact List.mem_cons_of_mem _ (dget_mem h)
/-- the same over a heap that goes on -/
theorem Ros.lens' {os : List O} {vs : List V} {A : List Addr} {j : Nat} {o : O} (r : Ros c S H os vs A) (h : os[j]? = some o) : ∃ L As R w, A = L ++ As ++ R ∧ vs[j]? = some w ∧ Ro c S H o w As ∧
    ∀ S2 H2 o2 B, Same S S2 → (∀ a ∈ L ++ R, H2 a = H a ∧ S2 a = S a) → Ro c S2 H2 o2 w B → Ros c S2 H2 (os.set j o2) vs (L ++ B ++ R) := by
  induction os generalizing vs A j with
  | nil => simp at h
  | cons x xs ih =>
    simp only [Ros] at r
    obtain ⟨v, l, A1, A2, rfl, rfl, p, z⟩ := r
    cases j with
    | zero =>
      simp at h
      subst h
      refine ⟨[], A1, A2, v, rfl, rfl, p, fun S2 H2 o2 B sm k r2 => ?_⟩
      simp only [List.set_cons_zero, Ros]
      exact ⟨v, l, B, A2, rfl, rfl, r2, Ros.frame sm xs l A2 z fun a ha => k a (by simpa using ha)⟩
    | succ j =>
      obtain ⟨L, As, R, w, rfl, h1, h2, h3⟩ := ih z (by simpa using h)
      refine ⟨A1 ++ L, As, R, w, by simp only [List.append_assoc], by simpa using h1, h2, fun S2 H2 o2 B sm k r2 => ?_⟩
      have r3 := h3 S2 H2 o2 B sm (fun a ha => k a (by simp only [List.append_assoc, List.mem_append] at ha ⊢; exact .inr ha)) r2
      simp only [List.set_cons_succ, Ros]
      exact ⟨v, l, A1, L ++ B ++ R, rfl, by simp only [List.append_assoc], Ro.frame sm x v A1 p fun a ha => k a (by simp only [List.append_assoc, List.mem_append]; exact .inl ha), r3⟩
theorem Ros.klens' {κ : Type} [DecidableEq κ] (x : κ) {so : O} : ∀ {ks : List κ} {os : List O} {vs : List V} {A : List Addr}, Ros c S H os vs A → dget ks os x = some so → ∃ L As R w, A = L ++ As ++ R ∧ dget ks vs x = some w ∧ Ro c S H so w As ∧
    ∀ S2 H2 o2 B, Same S S2 → (∀ a ∈ L ++ R, H2 a = H a ∧ S2 a = S a) → Ro c S2 H2 o2 w B → Ros c S2 H2 (dset1 ks os x o2) vs (L ++ B ++ R)
  | [], os, vs, A, r, hx => by simp [dget] at hx
  | k :: ks, [], vs, A, r, hx => by simp [dget] at hx
  | k :: ks, y :: os, vs, A, r, hx => by
    simp only [Ros] at r
    obtain ⟨v, l, A1, A2, rfl, rfl, p, z⟩ := r
    unfold dget at hx ⊢
    by_cases e : k = x
    · rw [if_pos e] at hx
      cases hx
      refine ⟨[], A1, A2, v, rfl, by rw [if_pos e], p, fun S2 H2 o2 B sm m r2 => ?_⟩
      unfold dset1
      rw [if_pos e]
      simp only [Ros]
      exact ⟨v, l, B, A2, rfl, rfl, r2, Ros.frame sm os l A2 z fun a ha => m a (by simpa using ha)⟩
    · rw [if_neg e] at hx
      obtain ⟨L, As, R, w, rfl, h1, h3, h4⟩ := Ros.klens' x z hx
      refine ⟨A1 ++ L, As, R, w, by simp only [List.append_assoc], by rw [if_neg e]; exact h1, h3, fun S2 H2 o2 B sm m r2 => ?_⟩
      have r3 := h4 S2 H2 o2 B sm (fun a ha => m a (by simp only [List.append_assoc, List.mem_append] at ha ⊢; exact .inr ha)) r2
      unfold dset1
      rw [if_neg e]
      simp only [Ros]
      exact ⟨v, l, A1, L ++ B ++ R, rfl, by simp only [List.append_assoc], Ro.frame sm y v A1 p fun a ha => m a (by simp only [List.append_assoc, List.mem_append]; exact .inl ha), r3⟩
theorem ixl_road (hu : X.A.units + 1 < cLine) : IxR X (fun x y H Q => ∃ S A o db so, Same S H ∧ Ro c S H o x A ∧ Rep c S db y ∧ itemO o db = some so ∧ nsh so = true ∧ (∀ w L As R, LensAt c S H o db x A so w L As R → Q w H)) := by
  refine IxR.cases fun x y H Q ⟨S, A, o, db, so, hs, ra, rb, e, ns, q⟩ => ?_
  cases o with
  | sh a =>
    simp only [itemO] at e
    obtain ⟨d', h1, rfl⟩ := Option.map_eq_some_iff.mp e
    cases ns
  | lst xs =>
    cases db <;> simp only [itemO, reduceCtorEq] at e
    rename_i i
    have ra0 := ra
    simp only [Ro] at ra
    simp only [Rep] at rb
    obtain ⟨a, vs, B, rfl, rfl, h, hn, z⟩ := ra
    unfold atI at e
    cases e2 : ixN xs.length i with
    | none => rw [e2] at e; cases e
    | some j =>
      rw [e2] at e
      obtain ⟨L, As, R, w, rfl, h1, h2, h3⟩ := z.lens' (show xs[j]? = some so from e)
      refine ⟨_, ix_list, a, vs, i, w, rfl, rb, .of h, ?_, q w (a :: L) As R ⟨by simp, h2, fun S2 H2 so2 B sm k r2 => ?_⟩⟩
      · unfold atI
        rw [z.length, e2]
        exact h1
      · have k0 := k a (by simp)
        simp only [putO, e2, Ro]
        exact ⟨a, vs, L ++ B ++ R, rfl, by simp, k0.1.trans h, k0.2.trans hn, h3 S2 H2 so2 B sm (fun b hb => k b (by simp only [List.cons_append]; exact List.mem_cons_of_mem _ hb)) r2⟩
  | dK ks xs =>
    simp only [itemO] at e
    cases hk : keyD db with
    | none => rw [hk] at e; cases e
    | some k =>
      rw [hk] at e
      simp only [Ro] at ra
      obtain ⟨a, vs, B, rfl, rfl, h, hn, hl, z⟩ := ra
      obtain ⟨L, As, R, w, rfl, h1, h2, h3⟩ := z.klens' k e
      refine ⟨_, ix_dict hu, a, w, rfl, .inl ⟨_, k.key, .inl h, keyD_rep hk rb, by rw [valV_zip Kb.key (fun _ _ => Kb.key_inj) k ks vs, h1]⟩, q w (a :: L) As R ⟨by simp, h2, fun S2 H2 so2 B sm m r2 => ?_⟩⟩
      have k0 := m a (by simp)
      simp only [putO, hk, Ro]
      exact ⟨a, vs, L ++ B ++ R, rfl, by simp, k0.1.trans h, k0.2.trans hn, hl, h3 S2 H2 so2 B sm (fun b hb => m b (by simp only [List.cons_append]; exact List.mem_cons_of_mem _ hb)) r2⟩
  | dT ks xs =>
    cases db <;> simp only [itemO, reduceCtorEq] at e
    rename_i ys
    cases hk : keysD ys with
    | none => rw [hk] at e; cases e
    | some k =>
      rw [hk] at e
      simp only [Ro] at ra
      simp only [Rep] at rb
      obtain ⟨a, vs, B, rfl, rfl, h, hn, hl, z⟩ := ra
      obtain ⟨b, ws, rfl, hb, rw'⟩ := rb
      obtain ⟨L, As, R, w, rfl, h1, h2, h3⟩ := z.klens' k e
      refine ⟨_, ix_dict hu, a, w, rfl, .inr ⟨_, k.map Kb.key, b, .inl h, rfl, by rw [← keysD_rep hk rw']; exact hs _ _ hb, by rw [valV_zip (fun k : List Kb => k.map Kb.key) (fun _ _ => keys_inj) k ks vs, h1]⟩, q w (a :: L) As R ⟨by simp, h2, fun S2 H2 so2 B sm m r2 => ?_⟩⟩
      have k0 := m a (by simp)
      simp only [putO, hk, Ro]
      exact ⟨a, vs, L ++ B ++ R, rfl, by simp, k0.1.trans h, k0.2.trans hn, hl, h3 S2 H2 so2 B sm (fun b hb => m b (by simp only [List.cons_append]; exact List.mem_cons_of_mem _ hb)) r2⟩
  | ins k xs => simp only [itemO, reduceCtorEq] at e
theorem seg_perm {L As R B : List Addr} : ((L ++ As ++ R) ++ B).Perm ((L ++ R) ++ (As ++ B)) := by
  have h1 : (L ++ As ++ R).Perm (L ++ R ++ As) := by
    rw [List.append_assoc, List.append_assoc]
    exact (List.perm_append_comm (l₁ := As) (l₂ := R)).append_left L
  have h2 := h1.append_right B
  rw [List.append_assoc (L ++ R) As B] at h2
  exact h2
theorem lens_nodup {L As R B A' R' : List Addr} (nd : ((L ++ As ++ R) ++ B).Nodup) (nd2 : (A' ++ R').Nodup) (sub : ∀ b ∈ A' ++ R', b ∈ As ++ B) : ((L ++ A' ++ R) ++ R').Nodup := by
  have n1 := (List.Perm.nodup_iff seg_perm).mp nd
  refine (List.Perm.nodup_iff seg_perm).mpr ?_
  obtain ⟨m1, m2, m3⟩ := List.nodup_append.mp n1
  exact List.nodup_append.mpr ⟨m1, nd2, fun a ha b hb => m3 a ha b (sub b hb)⟩
def mutK (T : String) (i : Nat) (mk : M Mp.D) (f : O → List O → Option (O × O)) (ms : M (List O)) : M O := fun env => match env[i]? with
  | some (some _) => bnd mk (fun k env => match env[i]? with
    | some (some o) => match itemO o k with
      | some so => if nsh so && isT T so then bnd ms (fun os env2 => match f so os with
        | some (so', res) => (.ok res, env2.set i (some (putO o k so')))
        | none => (.bad, env2)) (env.set i none) else (.bad, env)
      | none => (.bad, env)
    | _ => (.bad, env)) env
  | _ => (.bad, env)
theorem tbm_mutK {T : String} {r : V → List V → Hp → VK → Prop} {f : O → List O → Option (O × O)} {mk : M Mp.D} {ms : M (List O)} {K : PySem.W.Frag} {Q : VK} (wo : WdOk c J) (hm : MutR c r f) (h : tO c J W (mutK T i mk f ms) σ H Q) :
    tBM K T r (fun σ H Q => tVar i σ H fun x H1 => tD c J W mk σ H1 fun y H2 => (fun x y H Q => ∃ S A o db so, Same S H ∧ Ro c S H o x A ∧ Rep c S db y ∧ itemO o db = some so ∧ nsh so = true ∧ (∀ w L As R, LensAt c S H o db x A so w L As R → Q w H)) x y H2 Q) (tL c J W ms) σ H Q := by
  obtain ⟨env, S, F, g, q⟩ := h
  unfold mutK at q
  cases e : env[i]? with
  | none => rw [e] at q; exact q.elim
  | some z =>
    cases z with
    | none => rw [e] at q; exact q.elim
    | some o0 =>
      rw [e] at q
      obtain ⟨v, hv, r0⟩ := g.rep i o0 e
      refine ⟨v, hv, env, S, F, g, Fin.seq0 q fun d env1 kv S1 H1 F1 A1 e1 g1 s1 r1 ap1 q => ?_⟩
      obtain ⟨r1, rfl⟩ := r1
      cases e2 : env1[i]? with
      | none =>
        simp only [e2] at q
        exact q.elim
      | some z =>
        cases z with
        | none =>
          simp only [e2] at q
          exact q.elim
        | some o =>
          simp only [e2] at q
          cases e3 : itemO o d with
          | none =>
            simp only [e3] at q
            exact q.elim
          | some so =>
            simp only [e3] at q
            by_cases hc : (nsh so && isT T so) = true
            case neg =>
              rw [if_neg hc] at q
              exact q.elim
            rw [if_pos hc] at q
            rw [Bool.and_eq_true] at hc
            obtain ⟨v', e4, ro, gt, apt⟩ := g1.take e2
            rw [hv] at e4
            cases e4
            refine ⟨S1, F1 i, o, d, so, g1.sub, ro, r1, e3, hc.1, fun w L As R ln => ⟨isT_ty hc.2 ln.sub, _, S1, _, gt, Fin.seq (P := F1 i) (q.pre fun a h => h.elim (fun h => .inl (un_less h)) fun h => .inl ⟨i, h⟩) fun os env2 vs S2 H2 F2 B e5 g2 s2 rs ap2 q => ?_⟩⟩
            have heldA : ∀ a ∈ F1 i, ∃ x, H1 a = some x := fun a ha => (Ro.held o v _ ro a ha).1
            have asd := s2.aside (F1 i) heldA apt.out
            have outA := s2.out heldA apt.out
            have mem : ∀ {a : Addr}, a ∈ L ++ As ++ R → a ∈ F1 i := fun h => by rw [ln.cut]; exact h
            have ro2 : Ro c S2 H2 o v (F1 i) := s2.ro ro apt.out
            have rso : Ro c S2 H2 so w As := Ro.frame s2.sh so w As ln.sub fun a ha => asd a (mem (List.mem_append_left _ (List.mem_append_right _ ha)))
            have g3 := g2.back hv ro2 ⟨g1.nod i, fun a ha z => outA a ha (.inl (un_less z))⟩
            have apB : Apart B (un (upF F2 i (F1 i))) := ⟨ap2.nod, fun a ha z => by
              rcases un_of_upF z with h | h
              · exact outA a h (.inr ha)
              · exact ap2.out a ha (un_less h)⟩
            have ndF : ((L ++ As ++ R) ++ B).Nodup := by
              rw [← ln.cut]
              exact nodup_app (g1.nod i) ap2.nod fun a ha hb => outA a ha (.inr hb)
            have ndA : (As ++ B).Nodup := (List.nodup_append.mp ((List.Perm.nodup_iff seg_perm).mp ndF)).2.1
            have eF : upF F2 i (F1 i) i = F1 i := upF_same
            have hl : i < env2.length := by rw [g2.len]; exact (List.getElem?_eq_some_iff.mp hv).1
            cases hf : f so os with
            | none =>
              simp only [hf] at q
              exact q.elim
            | some p =>
              obtain ⟨so', res⟩ := p
              simp only [hf] at q
              refine hm S2 H2 so os so' res w As B vs Q hf rso rs ndA g2.sub fun a x y u A' R' ha hx nf r3 r4 nd3 sub3 => ?_
              have na : ∀ b ∈ L ++ R, b ≠ a := fun b hb z => (List.nodup_append.mp ((List.Perm.nodup_iff seg_perm).mp ndF)).2.2 b hb a (List.mem_append_left _ ha) z
              have lr : ∀ b ∈ L ++ R, b ∈ F1 i := fun b hb => mem (by
                rcases List.mem_append.mp hb with h | h
                · exact List.mem_append_left _ (List.mem_append_left _ h)
                · exact List.mem_append_right _ h)
              have r5 := ln.back S2 (upd H2 a y) so' A' s2.sh (fun b hb => by
                rw [upd_ne (na b hb)]
                exact asd b (lr b hb)) r3
              refine put_back (W := W) (A' := L ++ A' ++ R) (R := R') (B := B) wo g3 (List.getElem?_set_self hl) hv apB (fun a ha => (Ros.held os vs B rs a ha).1) (fun a ha => (Ros.held os vs B rs a ha).2) (by rw [eF]; exact List.mem_append_left _ (mem (List.mem_append_left _ (List.mem_append_right _ ha)))) hx nf r5 r4 (lens_nodup ndF nd3 sub3) (fun b hb => ?_) ?_
              · rw [eF]
                rcases List.mem_append.mp hb with hb | hb
                · rcases List.mem_append.mp hb with hb | hb
                  · rcases List.mem_append.mp hb with hb | hb
                    · exact List.mem_append_left _ (lr b (List.mem_append_left _ hb))
                    · rcases List.mem_append.mp (sub3 b (List.mem_append_left _ hb)) with h | h
                      · exact List.mem_append_left _ (mem (List.mem_append_left _ (List.mem_append_right _ h)))
                      · exact List.mem_append_right _ h
                  · exact List.mem_append_left _ (lr b (List.mem_append_right _ hb))
                · rcases List.mem_append.mp (sub3 b (List.mem_append_right _ hb)) with h | h
                  · exact List.mem_append_left _ (mem (List.mem_append_left _ (List.mem_append_right _ h)))
                  · exact List.mem_append_right _ h
              · rw [List.set_set]
                refine q.pre fun b hb => ?_
                rcases hb with hb | hb
                · rcases un_of_upF hb with h | h
                  · exact .inr h
                  · exact .inl (.inl (un_less h))
                · exact .inl (.inr hb)
theorem pe_mutK0 {T id : String} {r : V → List V → Hp → VK → Prop} {f : O → List O → Option (O × O)} {x name : Str} {k : Expr} {mk : M Mp.D} {p p2 apos cpos : Pos} (wo : WdOk c J) (hu : X.A.units + 1 < cLine) (hm : MutR c r f) (pa : PlainAttrs T) (slot : Slot T name id) (hty : typeOf (.builtin id) = pure (.type "method_descriptor")) (hr : MtR X id r)
    (hN : X.N[i]? = some x) (hv : Vis X.env.scope x) (hd : (x == ("__debug__" : Str)) = false) (hcd : (x == ("__classdict__" : Str)) = false) (hk : PE X k (tD c J W mk)) (hpl : PlainIx k)
    (hbase : attributeBase (.Subscript (.Name x p) k p2) name X.env (eval (.Subscript (.Name x p) k p2) X.env) = eval (.Subscript (.Name x p) k p2) X.env) (hline : (apos.endLine == cpos.line) = true) :
    PE X (.Call (.Attribute (.Subscript (.Name x p) k p2) name apos) [] [] cpos) (tO c J W (mutK T i mk f nilL)) :=
  PE.mono (pe_bm0 pa slot hty hr (pe_ix (ixl_road (c := c) hu) (pe_var hN hv hd hcd) hk hpl) hbase hline) fun σ H Q q => by
    have h := tbm_mutK (K := X.K) wo hm q
    obtain ⟨v, hv, env, S, F, g, q⟩ := h
    refine ⟨v, hv, env, S, F, g, ?_⟩
    cases e : mk env with
    | mk r1 env1 =>
      rw [e] at q
      cases r1 with
      | ok d =>
        intro y S' H' F' A' g' s' r' ap'
        obtain ⟨S1, A, o, db, so, h1, h2, h3, h4, h5, h6⟩ := q y S' H' F' A' g' s' r' ap'
        refine ⟨S1, A, o, db, so, h1, h2, h3, h4, h5, fun w L As R ln => ?_⟩
        obtain ⟨ty, env, S, F, g, q⟩ := h6 w L As R ln
        exact ⟨ty, q [] S _ F [] g (Step.refl.post fun a h => plus_nil.mp h) (by simp only [ROs, Ros]; exact ⟨trivial, trivial⟩) apart_nil⟩
      | ex x => exact q
      | bad => exact q
theorem pe_mutK {T id : String} {r : V → List V → Hp → VK → Prop} {f : O → List O → Option (O × O)} {x name : Str} {k e : Expr} {es : List Expr} {mk : M Mp.D} {ms : M (List O)} {p p2 apos cpos : Pos} (wo : WdOk c J) (hu : X.A.units + 1 < cLine) (hm : MutR c r f) (pa : PlainAttrs T) (slot : Slot T name id) (hty : typeOf (.builtin id) = pure (.type "method_descriptor")) (hr : MtR X id r)
    (hN : X.N[i]? = some x) (hv : Vis X.env.scope x) (hd : (x == ("__debug__" : Str)) = false) (hcd : (x == ("__classdict__" : Str)) = false) (hk : PE X k (tD c J W mk)) (hpl : PlainIx k) (ha : PA X (e :: es) (tL c J W ms))
    (hbase : attributeBase (.Subscript (.Name x p) k p2) name X.env (eval (.Subscript (.Name x p) k p2) X.env) = eval (.Subscript (.Name x p) k p2) X.env)
    (hfew : ((backTo cpos (starEach (e :: es) X.env)).all (fun x => !x.1) && (backToKw cpos (keywordEach [] X.env)).all (fun x => x.1.isSome)
      && decide ((e :: es).length + ([] : List Keyword).length + (if ([] : List Keyword).isEmpty then 0 else 1) < 30)) = true)
    (hline : (apos.endLine == cpos.line) = true) (hs : starEach (e :: es) X.env = (false, eval e X.env) :: starEach es X.env) (hpl2 : (backTo cpos (starEach es X.env)).any (·.1) = false) :
    PE X (.Call (.Attribute (.Subscript (.Name x p) k p2) name apos) (e :: es) [] cpos) (tO c J W (mutK T i mk f ms)) :=
  PE.mono (pe_bm pa slot hty hr (pe_ix (ixl_road (c := c) hu) (pe_var hN hv hd hcd) hk hpl) ha hbase hfew hline hs hpl2) fun σ H Q q => tbm_mutK wo hm q
end
end Mp
end
section
/-! Mp19: dict displays. -/
namespace Mp
open PySem L2 PyProof.Rows
section
variable {c : Wd} {J : Hp → Prop} {W : WX} {X : Cx} {S H : Hp} {σ : L2.St} {env : Env} {F : Nat → List Addr}
structure PD (c : Wd) (J : Hp → Prop) (W : WX) (X : Cx) (pos : Pos) (keys : List (Option Expr)) (values : List Expr) (ks : List Kb) (ms : M (List O)) : Prop where
  ex : ∃ trs, PPs X pos keys values trs ∧ ∀ (σ : L2.St) (H : Hp) (Q : List (V × V) → Hp → Prop), tL c J W ms σ H (fun vs H' => Q ((ks.map fun k => kV k.key).zip vs) H') → tPairs trs σ H Q
theorem pd_nil {pos : Pos} : PD c J W X pos [] [] [] nilL := ⟨[], pps_nil, fun σ H Q ⟨env, S, F, g, q⟩ => q [] S H F [] g (Step.refl.post fun a h => plus_nil.mp h) (by simp only [ROs, Ros]; exact ⟨trivial, trivial⟩) apart_nil⟩
theorem pd_cons {pos : Pos} {k v : Expr} {keys : List (Option Expr)} {values : List Expr} {kb : Kb} {ks : List Kb} {m : M O} {ms : M (List O)} (hk : PE X k (tC (kV kb.key))) (hv : PE X v (tO c J W m)) (hr : PD c J W X pos keys values ks ms) :
    PD c J W X pos (some k :: keys) (v :: values) (kb :: ks) (consL m ms) := by
  obtain ⟨trs, hp, ht⟩ := hr.ex
  refine ⟨_, pps_cons hk hv hp, fun σ H Q ⟨env, S, F, g, q⟩ => ?_⟩
  refine ⟨env, S, F, g, Fin.seq0 q fun o env1 x S1 H1 F1 A1 e1 g1 s1 r1 ap1 q => ?_⟩
  refine ht σ H1 _ ⟨env1, S1, F1, g1, Fin.seq (P := A1) q fun os env2 xs S2 H2 F2 A2 e2 g2 s2 r2 ap2 q => ?_⟩
  have held : ∀ a ∈ A1, ∃ o, H1 a = some o := fun a ha => (Ro.held o x A1 r1 a ha).1
  have out := s2.out held ap1.out
  refine q (x :: xs) S2 H2 F2 (A1 ++ A2) g2 (Step.refl.post fun a h => ?_) ?_ ⟨nodup_app ap1.nod ap2.nod fun a ha hb => out a ha (.inr hb), fun a ha => ?_⟩
  · rcases h with h | h
    · exact .inl (.inl h)
    · rcases List.mem_append.mp h with h | h
      · exact .inr h
      · exact .inl (.inr h)
  · simp only [ROs, Ros]
    exact ⟨x, xs, A1, A2, rfl, rfl, s2.ro r1 ap1.out, r2⟩
  · rcases List.mem_append.mp ha with h | h
    · exact fun z => out a h (.inl z)
    · exact ap2.out a h
theorem merge_new : ∀ (kvs acc : List (L2.Key × V)), (acc.map (·.1) ++ kvs.map (·.1)).Nodup → mergeK acc kvs = acc ++ kvs
  | [], acc, _ => by simp [mergeK]
  | p :: r, acc, h => by
    have hn : p.1 ∉ acc.map (·.1) := fun z => (List.nodup_append.mp h).2.2 _ z _ (by simp) rfl
    have e : putK acc p.1 p.2 = acc ++ [(p.1, p.2)] := by
      unfold putK
      rw [if_neg]
      intro z
      obtain ⟨kv, h1, h2⟩ := List.any_eq_true.mp z
      exact hn (List.mem_map.mpr ⟨kv, h1, by simpa using h2⟩)
    show mergeK (putK acc p.1 p.2) r = _
    rw [e, merge_new r _ (by simpa using h)]
    simp
theorem zip_fst {α β : Type} : ∀ (xs : List α) (ys : List β), xs.length = ys.length → (xs.zip ys).map (·.1) = xs
  | [], [], _ => rfl
  | [], _ :: _, h => by simp at h
  | _ :: _, [], h => by simp at h
  | x :: xs, y :: ys, h => by simp [zip_fst xs ys (by simpa using h)]
def dispM (ks : List Kb) (ms : M (List O)) : M O := bnd ms fun os => if os.length = ks.length then ret (.dK ks os) else bad
theorem pe_dispM {pos : Pos} {keys : List (Option Expr)} {values : List Expr} {ks : List Kb} {ms : M (List O)} (wo : WdOk c J) (h : PD c J W X pos keys values ks ms) (nd : ks.Nodup) (hall : keys.all (·.isSome) = true) (hl : keys.length = values.length) (h0 : keys ≠ []) (h15 : keys.length ≤ 15) (hk : ks.length = keys.length) :
    PE X (.Dict keys values pos) (tO c J W (dispM ks ms)) := by
  obtain ⟨trs, hp, ht⟩ := h.ex
  refine PE.mono (pe_disp hp hall hl h0 h15) fun σ H Q ⟨env, S, F, g, q⟩ p hp => ?_
  obtain ⟨g1, s1, ap1, k1⟩ := new_own (x := .dK []) (A := []) wo g apart_nil (fun a h => absurd h (by simp)) hp
  have q := Fin.step q (s1.pre fun a h => plus_nil.mp h)
  refine ht σ _ _ ⟨env, S, F, g1, Fin.seq (P := [p]) q fun os env2 vs S2 H2 F2 A2 e2 g2 s2 r2 ap2 q => ?_⟩
  have h2 := s2.keep p _ upd_same (ap1.out p (by simp))
  have sp : S2 p = none := h2.2.1.trans (g.sub.free hp)
  split at q
  · rename_i hlen
    have lv := Ros.length r2
    have nk : (ks.map Kb.key).Nodup := List.Pairwise.map Kb.key (fun a b n e => n (Kb.key_inj e)) nd
    have pA : p ∉ A2 := fun z => h2.2.2 (.inr z)
    have m0 : mergeK [] ((ks.map Kb.key).zip vs) = (ks.map Kb.key).zip vs := by
      have := merge_new ((ks.map Kb.key).zip vs) [] (by rw [List.map_nil, List.nil_append, zip_fst _ _ (by rw [List.length_map, lv, hlen])]; exact nk)
      simpa using this
    refine ⟨h2.1, (ks.map Kb.key).zip vs, ?_, ?_, ?_⟩
    · rw [List.zip_map_left, List.zip_map_left, List.map_map]
      rfl
    · rw [List.length_zip, List.length_map, lv, hlen, Nat.min_self, hk]
      exact h15
    · rw [m0]
      have g3 := g2.write (y := .dK ((ks.map Kb.key).zip vs)) wo h2.1 (fun z => z) sp fun z => h2.2.2 (.inl z)
      refine q (.ref p) S2 _ F2 (p :: A2) g3 ((Step.write (.inr (by simp))).post fun a h => ?_) ?_ ⟨List.nodup_cons.mpr ⟨pA, ap2.nod⟩, fun a ha => ?_⟩
      · rcases h with h | h
        · exact .inl (.inl h)
        · rcases List.mem_cons.mp h with rfl | h
          · exact .inr (by simp)
          · exact .inl (.inr h)
      · simp only [RO, Ro]
        exact ⟨p, vs, A2, rfl, rfl, upd_same, sp, by rw [lv, hlen], Ros.frame (Same.refl _) os vs A2 r2 fun b hb => ⟨upd_ne fun e => pA (e ▸ hb), rfl⟩⟩
      · rcases List.mem_cons.mp ha with rfl | ha
        · exact fun z => h2.2.2 (.inl z)
        · exact ap2.out a ha
  · exact q.elim
end
end Mp
end
section
/-! Mp20: calls: what is handed over, what comes back. -/
namespace Mp
open PySem L2 PyProof.Rows
/-- an argument: a thing, or what stands at a slot of the caller's, lent -/
inductive Ar where
  | o (x : O) | b (i : Nat)
def takeA : List Ar → Env → Option (List O × Env)
  | [], e => some ([], e)
  | .o x :: as, e => (takeA as e).map fun p => (x :: p.1, p.2)
  | .b i :: as, e => match e[i]? with
    | some (some x) => (takeA as (e.set i none)).map fun p => (x :: p.1, p.2)
    | _ => none
def backA : List Ar → Nat → Env → Env → Env
  | [], _, _, e => e
  | .o _ :: as, k, e2, e => backA as (k + 1) e2 e
  | .b i :: as, k, e2, e => backA as (k + 1) e2 (e.set i (e2[k]?).join)
def startE (n : Nat) (os : List O) : Env := os.map some ++ List.replicate (n - os.length) none
def callF (n : Nat) (body : M Fl) (ms : M (List Ar)) : M O := bnd ms fun as env => match takeA as env with
  | some (os, e1) => match body (startE n os) with
    | (.ok (.rt o), e2) => (.ok o, backA as 0 e2 e1)
    | (.ok .nx, e2) => (.ok (.sh .non), backA as 0 e2 e1)
    | (.ok _, _) => (.bad, env)
    | (.ex x, e2) => (.ex x, backA as 0 e2 e1)
    | (.bad, _) => (.bad, env)
  | none => (.bad, env)
section
variable (c : Wd) (σ : L2.St)
def RAs : RR (List Ar) (List V)
  | _, _, [], vs, A => vs = [] ∧ A = []
  | S, H, .o x :: as, vs, A => ∃ v r A1 A2, vs = v :: r ∧ A = A1 ++ A2 ∧ Ro c S H x v A1 ∧ RAs S H as r A2
  | S, H, .b i :: as, vs, A => ∃ v r, vs = v :: r ∧ σ[i]? = some (some v) ∧ RAs S H as r A
end
/-- the reading of a call's arguments -/
def tAr (c : Wd) (J : Hp → Prop) (W : WX) (m : M (List Ar)) : TA := fun σ H Q => tG c J (RAs c σ) W m σ H Q
section
variable {c : Wd} {J : Hp → Prop} {W : WX} {X : Cx} {S H S' H' : Hp} {σ : L2.St} {env : Env} {F : Nat → List Addr} {U U' : Uset}
theorem Step.ras (x : Step S H U S' H' U') : ∀ {as : List Ar} {vs : List V} {A : List Addr}, RAs c σ S H as vs A → (∀ a ∈ A, ¬ U a) → RAs c σ S' H' as vs A
  | [], vs, A, r, o => by simpa only [RAs] using r
  | .o y :: as, vs, A, r, o => by
    simp only [RAs] at r ⊢
    obtain ⟨v, l, A1, A2, rfl, rfl, p, z⟩ := r
    exact ⟨v, l, A1, A2, rfl, rfl, x.ro p fun a ha => o a (List.mem_append_left _ ha), Step.ras x z fun a ha => o a (List.mem_append_right _ ha)⟩
  | .b i :: as, vs, A, r, o => by
    simp only [RAs] at r ⊢
    obtain ⟨v, l, rfl, h, z⟩ := r
    exact ⟨v, l, rfl, h, Step.ras x z o⟩
theorem RAs.held : ∀ {as : List Ar} {vs : List V} {A : List Addr}, RAs c σ S H as vs A → ∀ a ∈ A, (∃ x, H a = some x) ∧ S a = none
  | [], vs, A, r => by
    simp only [RAs] at r
    rw [r.2]
    intro a h
    exact absurd h (by simp)
  | .o y :: as, vs, A, r => by
    simp only [RAs] at r
    obtain ⟨v, l, A1, A2, rfl, rfl, p, z⟩ := r
    intro b hb
    rcases List.mem_append.mp hb with hb | hb
    · exact Ro.held y v A1 p b hb
    · exact RAs.held z b hb
  | .b i :: as, vs, A, r => by
    simp only [RAs] at r
    obtain ⟨v, l, rfl, h, z⟩ := r
    exact RAs.held z
/-! ### argument lists -/
def nilA : M (List Ar) := ret []
def oA (m : M O) (ms : M (List Ar)) : M (List Ar) := bnd m fun x => bnd ms fun xs => ret (.o x :: xs)
def bA (i : Nat) (ms : M (List Ar)) : M (List Ar) := fun env => match env[i]? with
  | some (some _) => bnd ms (fun xs => ret (.b i :: xs)) env
  | _ => (.bad, env)
theorem pa_nilA : PA X [] (tAr c J W nilA) := PA.mono pa_nil fun σ H Q ⟨env, S, F, g, q⟩ => q [] S H F [] g (Step.refl.post fun a h => plus_nil.mp h) (by simp only [RAs]; exact ⟨trivial, trivial⟩) apart_nil
theorem pa_oA {e : Expr} {es : List Expr} {m : M O} {ms : M (List Ar)} (he : PE X e (tO c J W m)) (hr : PA X es (tAr c J W ms)) (hs : starEach (e :: es) X.env = (false, eval e X.env) :: starEach es X.env) : PA X (e :: es) (tAr c J W (oA m ms)) := by
  refine PA.mono (pa_cons he hr hs) fun σ H Q ⟨env, S, F, g, q⟩ => ?_
  refine ⟨env, S, F, g, Fin.seq0 q fun o env1 x S1 H1 F1 A1 e1 g1 s1 r1 ap1 q => ?_⟩
  refine ⟨env1, S1, F1, g1, Fin.seq (P := A1) q fun os env2 xs S2 H2 F2 A2 e2 g2 s2 r2 ap2 q => ?_⟩
  have held : ∀ a ∈ A1, ∃ o, H1 a = some o := fun a ha => (Ro.held o x A1 r1 a ha).1
  have out := s2.out held ap1.out
  refine q (x :: xs) S2 H2 F2 (A1 ++ A2) g2 (Step.refl.post fun a h => ?_) ?_ ⟨nodup_app ap1.nod ap2.nod fun a ha hb => out a ha (.inr hb), fun a ha => ?_⟩
  · rcases h with h | h
    · exact .inl (.inl h)
    · rcases List.mem_append.mp h with h | h
      · exact .inr h
      · exact .inl (.inr h)
  · simp only [RAs]
    exact ⟨x, xs, A1, A2, rfl, rfl, s2.ro r1 ap1.out, r2⟩
  · rcases List.mem_append.mp ha with h | h
    · exact fun z => out a h (.inl z)
    · exact ap2.out a h
theorem pa_bA {x : Str} {p : Pos} {i : Nat} {es : List Expr} {ms : M (List Ar)} (hN : X.N[i]? = some x) (hv : Vis X.env.scope x) (hd : (x == ("__debug__" : Str)) = false) (hcd : (x == ("__classdict__" : Str)) = false) (hr : PA X es (tAr c J W ms))
    (hs : starEach (.Name x p :: es) X.env = (false, eval (.Name x p) X.env) :: starEach es X.env) : PA X (.Name x p :: es) (tAr c J W (bA i ms)) := by
  refine PA.mono (pa_cons (pe_var hN hv hd hcd) hr hs) fun σ H Q ⟨env, S, F, g, q⟩ => ?_
  unfold bA at q
  cases e : env[i]? with
  | none => rw [e] at q; exact q.elim
  | some z =>
    cases z with
    | none => rw [e] at q; exact q.elim
    | some o =>
      rw [e] at q
      obtain ⟨v, hv, _⟩ := g.rep i o e
      refine ⟨v, hv, env, S, F, g, Fin.seq0 q fun os env2 xs S2 H2 F2 A2 e2 g2 s2 r2 ap2 q => ?_⟩
      refine q (v :: xs) S2 H2 F2 A2 g2 Step.refl ?_ ap2
      simp only [RAs]
      exact ⟨v, xs, rfl, hv, r2⟩
/-! ### handing over -/
theorem take_ok : ∀ {as : List Ar} {vs : List V} {A : List Addr} {os : List O} {env e1 : Env} {F : Nat → List Addr}, Good c J σ H S env F → RAs c σ S H as vs A → Apart A (un F) → takeA as env = some (os, e1) →
    ∃ F1 B, Good c J σ H S e1 F1 ∧ Ros c S H os vs B ∧ Apart B (un F1) ∧ (∀ a, un F1 a → un F a) ∧ ∀ a ∈ B, un F a ∨ a ∈ A
  | [], vs, A, os, env, e1, F, g, r, ap, e => by
    simp only [takeA, Option.some.injEq, Prod.mk.injEq] at e
    obtain ⟨rfl, rfl⟩ := e
    simp only [RAs] at r
    obtain ⟨rfl, rfl⟩ := r
    exact ⟨F, [], g, by simp only [Ros]; exact ⟨trivial, trivial⟩, apart_nil, fun _ h => h, fun a h => absurd h (by simp)⟩
  | .o x :: as, vs, A, os, env, e1, F, g, r, ap, e => by
    simp only [takeA] at e
    obtain ⟨⟨os', e2⟩, h, h2⟩ := Option.map_eq_some_iff.mp e
    simp only [Prod.mk.injEq] at h2
    obtain ⟨rfl, rfl⟩ := h2
    simp only [RAs] at r
    obtain ⟨v, l, A1, A2, rfl, rfl, p, z⟩ := r
    have nd := List.nodup_append.mp ap.nod
    obtain ⟨F1, B, g1, rB, apB, sub, subB⟩ := take_ok g z ⟨nd.2.1, fun a ha => ap.out a (List.mem_append_right _ ha)⟩ h
    refine ⟨F1, A1 ++ B, g1, by simp only [Ros]; exact ⟨v, l, A1, B, rfl, rfl, p, rB⟩, ⟨nodup_app nd.1 apB.nod fun a ha hb => ?_, fun a ha hz => ?_⟩, sub, fun a ha => ?_⟩
    · rcases subB a hb with h | h
      · exact ap.out a (List.mem_append_left _ ha) h
      · exact nd.2.2 a ha a h rfl
    · rcases List.mem_append.mp ha with h | h
      · exact ap.out a (List.mem_append_left _ h) (sub a hz)
      · exact apB.out a h hz
    · rcases List.mem_append.mp ha with h | h
      · exact .inr (List.mem_append_left _ h)
      · exact (subB a h).imp id (List.mem_append_right _)
  | .b i :: as, vs, A, os, env, e1, F, g, r, ap, e => by
    simp only [takeA] at e
    cases e3 : env[i]? with
    | none => rw [e3] at e; cases e
    | some zz =>
      cases zz with
      | none => rw [e3] at e; cases e
      | some x =>
        rw [e3] at e
        obtain ⟨⟨os', e2⟩, h, h2⟩ := Option.map_eq_some_iff.mp e
        simp only [Prod.mk.injEq] at h2
        obtain ⟨rfl, rfl⟩ := h2
        simp only [RAs] at r
        obtain ⟨v, l, rfl, hv, z⟩ := r
        obtain ⟨v', hv', ro, g2, ap2⟩ := g.take e3
        rw [hv] at hv'
        cases hv'
        obtain ⟨F1, B, g1, rB, apB, sub, subB⟩ := take_ok g2 z ⟨ap.nod, fun a ha hz => ap.out a ha (un_less hz)⟩ h
        refine ⟨F1, F i ++ B, g1, by simp only [Ros]; exact ⟨v, l, F i, B, rfl, rfl, ro, rB⟩, ⟨nodup_app (g.nod i) apB.nod fun a ha hb => ?_, fun a ha hz => ?_⟩, fun a h => un_less (sub a h), fun a ha => ?_⟩
        · rcases subB a hb with h | h
          · exact ap2.out a ha h
          · exact ap.out a h ⟨i, ha⟩
        · rcases List.mem_append.mp ha with h | h
          · exact ap2.out a h (sub a hz)
          · exact apB.out a h hz
        · rcases List.mem_append.mp ha with h | h
          · exact .inl ⟨i, h⟩
          · exact (subB a h).imp un_less id
/-- the callee's frame at its start -/
theorem good_start (hJ : J H) (hs : Same S H) : ∀ {os : List O} {vs : List V} {A : List Addr} (m : Nat), Ros c S H os vs A → A.Nodup → ∃ F, Good c J (vs.map some ++ List.replicate m none) H S (os.map some ++ List.replicate m none) F ∧ ∀ a, un F a ↔ a ∈ A
  | [], vs, A, m, r, nd => by
    simp only [Ros] at r
    obtain ⟨rfl, rfl⟩ := r
    refine ⟨fun _ => [], ⟨hs, hJ, fun i o e => ?_, fun i => List.nodup_nil, fun i j a h => absurd h (by simp), fun i h => rfl, by simp⟩, fun a => ⟨fun ⟨i, h⟩ => absurd h (by simp), fun h => absurd h (by simp)⟩⟩
    rw [List.map_nil, List.nil_append, List.getElem?_replicate] at e
    split at e <;> cases e
  | x :: os, vs, A, m, r, nd => by
    simp only [Ros] at r
    obtain ⟨v, l, A1, A2, rfl, rfl, p, z⟩ := r
    obtain ⟨n1, n2, n3⟩ := List.nodup_append.mp nd
    obtain ⟨F, g, hF⟩ := good_start hJ hs m z n2
    refine ⟨fun i => match i with
      | 0 => A1
      | i + 1 => F i, ⟨hs, hJ, fun i o e => ?_, fun i => ?_, fun i j a hi hj => ?_, fun i h => ?_, ?_⟩, fun a => ⟨fun ⟨i, h⟩ => ?_, fun h => ?_⟩⟩
    · cases i with
      | zero =>
        simp only [List.map_cons, List.cons_append, List.getElem?_cons_zero, Option.some.injEq] at e
        subst e
        exact ⟨v, rfl, p⟩
      | succ i => exact g.rep i o (by simpa using e)
    · cases i with
      | zero => exact n1
      | succ i => exact g.nod i
    · cases i with
      | zero =>
        cases j with
        | zero => rfl
        | succ j => exact (n3 a hi a ((hF a).mp ⟨j, hj⟩) rfl).elim
      | succ i =>
        cases j with
        | zero => exact (n3 a hj a ((hF a).mp ⟨i, hi⟩) rfl).elim
        | succ j => rw [g.dis i j a hi hj]
    · cases i with
      | zero => exact (h x rfl).elim
      | succ i => exact g.nil i fun o e => h o (by simpa using e)
    · have := g.len
      simp only [List.map_cons, List.cons_append, List.length_cons, this]
    · cases i with
      | zero => exact List.mem_append_left _ h
      | succ i => exact List.mem_append_right _ ((hF a).mp ⟨i, h⟩)
    · rcases List.mem_append.mp h with h | h
      · exact ⟨0, h⟩
      · obtain ⟨i, h⟩ := (hF a).mpr h
        exact ⟨i + 1, h⟩
/-- what lies aside while another one works -/
theorem Good.aside (g : Good c J σ H S env F) (s : Step S H U S' H' U') (out : ∀ a, un F a → ¬ U a) (hs : Same S' H') (hJ : J H') : Good c J σ H' S' env F where
  sub := hs
  inv := hJ
  rep := fun i o e => by
    obtain ⟨v, h, r⟩ := g.rep i o e
    exact ⟨v, h, s.ro r fun a ha => out a ⟨i, ha⟩⟩
  nod := g.nod
  dis := g.dis
  nil := g.nil
  len := g.len
theorem Good.forget (g : Good c J σ H S env F) (i : Nat) : Good c J σ H S (env.set i none) (upF F i []) where
  sub := g.sub
  inv := g.inv
  rep := fun j o h => by
    by_cases hj : j = i
    · subst hj
      by_cases hl : j < env.length
      · rw [List.getElem?_set_self hl] at h
        cases h
      · rw [List.getElem?_eq_none (by rw [List.length_set]; omega)] at h
        cases h
    · rw [List.getElem?_set_ne (Ne.symm hj)] at h
      rw [upF_ne hj]
      exact g.rep j o h
  nod := (g.drop i).nod
  dis := (g.drop i).dis
  nil := (g.drop i).nil
  len := by rw [List.length_set]; exact g.len
/-- what was lent comes back -/
theorem back_ok {σc : L2.St} {ec : Env} {Fc : Nat → List Addr} {S0 H0 : Hp} (gc : Good c J σc H S ec Fc) : ∀ {as : List Ar} {vs : List V} {A : List Addr} (k : Nat) {e : Env} {F : Nat → List Addr}, Good c J σ H S e F → RAs c σ S0 H0 as vs A →
    (∀ j i v, as[j]? = some (.b i) → vs[j]? = some v → σc[k + j]? = some (some v)) → (∀ a, un F a → ∀ j, k ≤ j → a ∉ Fc j) → ∃ F2, Good c J σ H S (backA as k ec e) F2 ∧ ∀ a, un F2 a → un F a ∨ un Fc a
  | [], vs, A, k, e, F, g, r, hk, hd => ⟨F, g, fun a h => .inl h⟩
  | .o x :: as, vs, A, k, e, F, g, r, hk, hd => by
    simp only [RAs] at r
    obtain ⟨v, l, A1, A2, rfl, rfl, p, z⟩ := r
    exact back_ok gc (k + 1) g z (fun j i v h h2 => by
      have := hk (j + 1) i v (by simpa using h) (by simpa using h2)
      rwa [show k + (j + 1) = k + 1 + j by omega] at this) fun a h j hj => hd a h j (by omega)
  | .b i :: as, vs, A, k, e, F, g, r, hk, hd => by
    simp only [RAs] at r
    obtain ⟨v, l, rfl, hv, z⟩ := r
    have hk' : ∀ j i v, as[j]? = some (.b i) → l[j]? = some v → σc[k + 1 + j]? = some (some v) := fun j i v h h2 => by
      have := hk (j + 1) i v (by simpa using h) (by simpa using h2)
      rwa [show k + (j + 1) = k + 1 + j by omega] at this
    have hσ : σc[k]? = some (some v) := hk 0 i v rfl rfl
    unfold backA
    have none_case : (ec[k]?).join = none → ∃ F2, Good c J σ H S (backA as (k + 1) ec (e.set i (ec[k]?).join)) F2 ∧ ∀ a, un F2 a → un F a ∨ un Fc a := fun h => by
      rw [h]
      obtain ⟨F2, g2, h2⟩ := back_ok gc (k + 1) (g.forget i) z hk' fun a h j hj => hd a (un_less h) j (by omega)
      exact ⟨F2, g2, fun a h => (h2 a h).imp un_less id⟩
    cases e1 : (ec[k]?).join with
    | none =>
      have := none_case e1
      rwa [e1] at this
    | some o =>
      have e1 := join_some e1
      obtain ⟨v', hv', ro⟩ := gc.rep k o e1
      rw [hσ] at hv'
      cases hv'
      have g2 := g.back hv ro ⟨gc.nod k, fun a ha hz => hd a (un_less hz) k (Nat.le_refl _) ha⟩
      obtain ⟨F2, g3, h2⟩ := back_ok gc (k + 1) g2 z hk' fun a h j hj hz => by
        rcases un_of_upF h with h | h
        · have := gc.dis j k a hz h
          omega
        · exact hd a (un_less h) j (by omega) hz
      refine ⟨F2, g3, fun a h => ?_⟩
      rcases h2 a h with h | h
      · rcases un_of_upF h with h | h
        · exact .inr ⟨k, h⟩
        · exact .inl (un_less h)
      · exact .inr h
/-! ### a def's promise -/
/-- N: the slots of the def; P: those that are never stored; body: what it does -/
def spM (c : Wd) (J : Hp → Prop) (N ps : List Str) (P : List Nat) (body : M Fl) : Sp := fun vs H Q E => vs.length = ps.length ∧ ∃ (os : List O) (S : Hp) (F : Nat → List Addr), os.length = ps.length ∧ Good c J (start N vs) H S (startE N.length os) F ∧
  FinS c J (fun cls d _ H => E cls d H) P S H (un F) { nx := fun _ H' => Q .non H', rt := Q } (start N vs) (body (startE N.length os))
/-- what is lent is never stored by the def -/
def lentOk (P : List Nat) (as : List Ar) : Prop := ∀ j i, as[j]? = some (.b i) → j ∈ P
theorem call_sp {N ps : List Str} {P : List Nat} {body : M Fl} {ms : M (List Ar)} {Q : VK} (hl : ∀ env as e, ms env = (.ok as, e) → as.length = ps.length ∧ lentOk P as) (hN : ps.length ≤ N.length) (h : tO c J W (callF N.length body ms) σ H Q) :
    tAr c J W ms σ H fun vs H1 => spM c J N ps P body vs H1 Q (WE W σ) := by
  obtain ⟨env, S, F, g, q⟩ := h
  refine ⟨env, S, F, g, Fin.seq0 q fun as env1 vs S1 H1 F1 A1 e1 g1 s1 r1 ap1 q => ?_⟩
  obtain ⟨la, lent⟩ := hl env as env1 e1
  cases e2 : takeA as env1 with
  | none =>
    simp only [e2] at q
    exact q.elim
  | some p =>
    obtain ⟨os, e3⟩ := p
    simp only [e2] at q
    obtain ⟨F2, B, g2, rB, apB, sub, subB⟩ := take_ok g1 r1 ap1 e2
    have lv : ∀ {as : List Ar} {vs : List V} {A : List Addr}, RAs c σ S1 H1 as vs A → vs.length = as.length := by
      intro as
      induction as with
      | nil =>
        intro vs A r
        simp only [RAs] at r
        simp [r.1]
      | cons a as ih =>
        intro vs A r
        cases a with
        | o x =>
          simp only [RAs] at r
          obtain ⟨v, l, A1, A2, rfl, rfl, p, z⟩ := r
          simp [ih z]
        | b i =>
          simp only [RAs] at r
          obtain ⟨v, l, rfl, h, z⟩ := r
          simp [ih z]
    have lvs := lv r1
    have los := Ros.length rB
    obtain ⟨Fc, gc, hFc⟩ := good_start g2.inv g2.sub (N.length - vs.length) rB apB.nod
    have es : startE N.length os = os.map some ++ List.replicate (N.length - vs.length) none := by
      unfold startE
      rw [los]
    refine ⟨by rw [lvs, la], os, S1, Fc, by rw [← los, lvs, la], by rw [es]; exact gc, ?_⟩
    -- what comes back
    have fin : ∀ {σ' : L2.St} {S' H' : Hp} {e' : Env} {F' : Nat → List Addr} {A' : List Addr}, Keep P (start N vs) σ' → Good c J σ' H' S' e' F' → Step S1 H1 (un Fc) S' H' (plus (un F') A') →
        ∃ F3, Good c J σ H' S' (backA as 0 e' e3) F3 ∧ Step S1 H1 (plus (un F1) A1) S' H' (plus (un F3) A') ∧ ∀ a, un F3 a → un F2 a ∨ un F' a := fun {σ' S' H' e' F' A'} k g' s' => by
      have out2 : ∀ a, un F2 a → ¬ un Fc a := fun a h z => apB.out a ((hFc a).mp z) h
      have g4 := g2.aside s' out2 g'.sub g'.inv
      have dis : ∀ a, un F2 a → ¬ plus (un F') A' a := fun a h => by
        obtain ⟨⟨x, hx⟩, _⟩ := g2.held h
        exact (s'.keep a x hx (out2 a h)).2.2
      have lentσ : ∀ j i v, as[j]? = some (.b i) → vs[j]? = some v → σ'[0 + j]? = some (some v) := fun j i v h h2 => by
        have hlt : j < vs.length := (List.getElem?_eq_some_iff.mp h2).1
        rw [Nat.zero_add, k j (lent j i h)]
        unfold L2.start
        rw [List.getElem?_append_left (by simpa using hlt), List.getElem?_map, h2]
        rfl
      obtain ⟨F3, g5, h3⟩ := back_ok g' 0 g4 r1 lentσ fun a h j _ hz => dis a h (.inl ⟨j, hz⟩)
      · refine ⟨F3, g5, ⟨s'.sh, fun a o e n => ?_⟩, h3⟩
        have nc : ¬ un Fc a := fun z => n ((subB a ((hFc a).mp z)).imp id id)
        obtain ⟨k1, k2, k3⟩ := s'.keep a o e nc
        refine ⟨k1, k2, fun z => ?_⟩
        rcases z with z | z
        · rcases h3 a z with z | z
          · exact n (.inl (sub a z))
          · exact k3 (.inl z)
        · exact k3 (.inr z)
    cases e4 : body (startE N.length os) with
    | mk r e5 =>
      rw [e4] at q
      cases r with
      | bad => exact q
      | ex x =>
        intro cls d σ' S' H' F' k g' s' x'
        obtain ⟨F3, g5, s5, _⟩ := fin k g' (s'.post (U2 := plus (un F') []) fun a h => plus_nil.mp h)
        exact q cls d S' H' F3 g5 ((s5.pre fun a h => h).post fun a h => .inl h) x'
      | ok fl =>
        cases fl with
        | bk => exact q.elim
        | ct => exact q.elim
        | nx =>
          intro σ' S' H' F' k g' s'
          obtain ⟨F3, g5, s5, _⟩ := fin k g' (s'.post (U2 := plus (un F') []) fun a h => plus_nil.mp h)
          exact q .non S' H' F3 [] g5 s5 (by simp only [RO, Ro, Rep]; exact ⟨trivial, trivial⟩) apart_nil
        | rt o =>
          intro v σ' S' H' F' A' k g' s' r' ap'
          obtain ⟨F3, g5, s5, h3⟩ := fin k g' s'
          refine q v S' H' F3 A' g5 s5 r' ⟨ap'.nod, fun a ha hz => ?_⟩
          rcases h3 a hz with h | h
          · obtain ⟨⟨x, hx⟩, _⟩ := g2.held h
            exact (s'.keep a x hx fun z => apB.out a ((hFc a).mp z) h).2.2 (.inr ha)
          · exact ap'.out a ha h
/-! ### defs -/
structure FnG (P : Program) (w : World) (K : PySem.W.Frag) (mg : Str → Option Value) (base : Heap) (k : Nat) (f : Addr) (fd : FuncData) (ps : List Str) (sp : Sp) : Prop where
  len : ∀ vs H Q E, sp vs H Q E → vs.length = ps.length
  run : ∀ (A : Around) (outer : List PySem.Env) (s : Shared) (H : Hp) (args : Args) (us : List Value) (vs : List V) (Q : VK) (E : XK), Room k A → A.guards = some [] → Env0 P w K mg base A outer s H → BindsTo s fd args (ps.zip us) → Vals vs us → sp vs H Q E →
    codeAny (model P w) A (.call (.ref f) args) (CR (L2.CX P w) outer P w H s Q E) s
theorem fnG_of {P : Program} {w : World} {K : PySem.W.Frag} {mg : Str → Option Value} {base : Heap} {k : Nat} {f : Addr} {fd : FuncData} {x qual : Str} {params : Arguments} {body : List Stmt} {scope : Scope} {dvs : List V} {kws : List (Str × V)} {N ps : List Str} {Pp : List Nat} {bm : M Fl}
    (FD : FunD K x qual params body scope dvs kws f fd) (SC : FnScope N ps scope)
    (hb : ∀ (cdv : Value) (A : Around) (outer : List PySem.Env) (s : Shared) (H : Hp) (E : XK), Room k (A.deeper (envOfC qual scope s.heap.objs.size f cdv)) → A.guards = some [] →
      PSs (cxOf (L2.CX P w) P w K mg base N qual scope f cdv A outer s H E) body (tS c J (fun cls d _ H => E cls d H) Pp bm)) :
    FnG P w K mg base (k + 1) f fd ps (spM c J N ps Pp bm) := by
  obtain ⟨oc, od, dV, kV, doc, pm, an, cdv, ct, osl, rfl, lk, hcd, _, _⟩ := FD.ex
  refine ⟨fun vs H Q E h => h.1, fun A outer s H args us vs Q E hr hgd e0 hbind r hsp => ?_⟩
  have hl := hsp.1
  have kin : K.In s.heap := e0.mod.kin.keeps fun b o e => (e0.bs b o e).1
  have nol : s.heap.NoLimit := e0.mod.nolimit.keeps fun b o e => (e0.bs b o e).1
  have kinds : ∀ y ∈ ps.zip us, scope.names.lookup y.1 = some .local ∨ (scope.names.lookup y.1 = some .cell ∧ ((cellsFrom (s.heap.objs.size + 1) scope.names []).lookup y.1).isSome = true) := fun ⟨n, v⟩ hy =>
    (SC.par n (List.of_mem_zip hy).1).imp id fun q => ⟨q, PySem.W.cellsFrom_some _ _ _ (.inl q)⟩
  refine codeAny_call_function hr.depth (kin _ _ lk) rfl SC.co SC.gen rfl (PySem.W.codeRec_of kin hcd) (hbind _ _ _ _ (wpAny_newFunctionEnv_cells SC.kind kinds fun env he s1 ic => ?_))
  subst he
  refine ⟨nol.keeps ic.toInCall.keep, codeAny_func ?_⟩
  obtain ⟨_, os, S, F, _, g, q⟩ := hsp
  have I : L2.Inv (cxOf (L2.CX P w) P w K mg base N qual scope f cdv A outer s H E) [] (start N vs) H s1 := inv_start SC hr.hd e0 hl r ic
  have fin : ∀ {σ' : L2.St} {H' : Hp} {v : V} {u : Value} {s' : Shared}, L2.Inv (cxOf (L2.CX P w) P w K mg base N qual scope f cdv A outer s H E) [] σ' H' s' → RelV v u → Q v H' → CE outer P w H s Q u s' :=
    fun {σ' H' v u s'} I' rv q => ⟨v, H', I'.os, I'.bare, I'.base, I'.hok, rv, q⟩
  refine wpAny_mono ((hb cdv A outer s H E (hr.deeper _) hgd).run [] s1 (start N vs) H { nx := fun _ H' => Q .non H', rt := Q } I ⟨_, S, F, g, q⟩) (fun fl s' hs => ?_) fun e s' hs => hs
  cases fl with
  | ret u =>
    obtain ⟨v, σ', H', I', rv, q⟩ := hs
    exact fin I' rv q
  | next =>
    obtain ⟨σ', H', I', q⟩ := hs
    exact fin (v := V.non) (u := Value.none) I' rfl q
  | brk => exact hs.elim fun _ h => h.elim fun _ h => h.2.elim
  | cont => exact hs.elim fun _ h => h.elim fun _ h => h.2.elim
/-- a def that is called by its name -/
structure DefG (c : Wd) (J : Hp → Prop) (P : Program) (w : World) (K : PySem.W.Frag) (mg : Str → Option Value) (base : Heap) (k : Nat) (x : Str) (N ps : List Str) (Pp : List Nat) (bm : M Fl) : Prop where
  ex : ∃ f fd, FnG P w K mg base k f fd ps (spM c J N ps Pp bm) ∧ mg x = some (.ref f) ∧ PySem.W.keepIn K (.ref f) = true ∧ Binds K fd ps []
  nd : (x == ("__debug__" : Str)) = false
  le : ps.length ≤ N.length
/-- the arguments fit -/
def FitA (n : Nat) (Pp : List Nat) (k : Nat) (ms : M (List Ar)) : Prop := ∀ env as e, ms env = (.ok as, e) → as.length = n ∧ ∀ j i, as[j]? = some (.b i) → k + j ∈ Pp
theorem fit_nil {Pp : List Nat} {k : Nat} : FitA 0 Pp k nilA := fun env as e h => by
  cases h
  exact ⟨rfl, fun j i h => by simp at h⟩
theorem fit_o {n : Nat} {Pp : List Nat} {k : Nat} {m : M O} {ms : M (List Ar)} (h : FitA n Pp (k + 1) ms) : FitA (n + 1) Pp k (oA m ms) := fun env as e q => by
  unfold oA bnd at q
  cases e1 : m env with
  | mk r e2 =>
    rw [e1] at q
    cases r with
    | ok x =>
      simp only at q
      cases e3 : ms e2 with
      | mk r e4 =>
        rw [e3] at q
        cases r with
        | ok xs =>
          obtain ⟨h1, h2⟩ := h e2 xs e4 e3
          cases q
          refine ⟨by simp [h1], fun j i hj => ?_⟩
          cases j with
          | zero => simp at hj
          | succ j =>
            have := h2 j i (by simpa using hj)
            rwa [show k + (j + 1) = k + 1 + j by omega]
        | ex x => cases q
        | bad => cases q
    | ex x => cases q
    | bad => cases q
theorem fit_b {n i : Nat} {Pp : List Nat} {k : Nat} {ms : M (List Ar)} (hk : k ∈ Pp) (h : FitA n Pp (k + 1) ms) : FitA (n + 1) Pp k (bA i ms) := fun env as e q => by
  unfold bA at q
  split at q
  · unfold bnd at q
    cases e3 : ms env with
    | mk r e4 =>
      rw [e3] at q
      cases r with
      | ok xs =>
        obtain ⟨h1, h2⟩ := h env xs e4 e3
        cases q
        refine ⟨by simp [h1], fun j i' hj => ?_⟩
        cases j with
        | zero => exact hk
        | succ j =>
          have := h2 j i' (by simpa using hj)
          rwa [show k + (j + 1) = k + 1 + j by omega]
      | ex x => cases q
      | bad => cases q
  · cases q
theorem pe_callG {k : Nat} {x : Str} {N ps : List Str} {Pp : List Nat} {bm : M Fl} {ms : M (List Ar)} {e : Expr} {es : List Expr} {p pos : Pos} (D : DefG c J X.prog X.w X.K X.mg X.base k x N ps Pp bm) (hr : Room k X.A) (hgd : X.A.guards = some []) (hg : Gl X x) (tk : Takes X W) (hf : FitA ps.length Pp 0 ms) (ha : PA X (e :: es) (tAr c J W ms))
    (he : starEach (e :: es) X.env = (false, eval e X.env) :: starEach es X.env) (hpl : (backTo pos (starEach es X.env)).any (·.1) = false) : PE X (.Call (.Name x p) (e :: es) [] pos) (tO c J W (callF N.length bm ms)) := by
  obtain ⟨f, fd, G, hm, hk, hb⟩ := D.ex
  refine ⟨fun pins s σ H Q I h => ?_⟩
  have h := call_sp (c := c) (J := J) (ps := ps) (P := Pp) (fun env as e q => by
    obtain ⟨h1, h2⟩ := hf env as e q
    exact ⟨h1, fun j i hj => by
      have := h2 j i hj
      rwa [Nat.zero_add] at this⟩) D.le h
  refine wpAny_Call_Name_kw (ld_glob I hg hm (PySem.W.callWith_K (h₀ := X.base) I.ok.mod.kin hk (thn (ha.run pos pins s σ H _ I h) fun us s1 ⟨vs, H1, I1, r, q⟩ => ⟨I1.kIn, ?_⟩) he hpl) D.nd)
  have hl : us.length = ps.length := by rw [← r.length]; exact G.len _ _ _ _ q
  have b := hb s1 us I1.kIn (by rw [List.append_nil]; exact hl)
  rw [List.append_nil] at b
  refine wpAny_call (codeAny_mono (G.run X.A X.stack s1 H1 ⟨us, []⟩ us vs Q (WE W σ) hr hgd I1.env0 b r q) fun r s' hq => ?_)
  cases r with
  | error e => exact passAt tk σ pins H1 s1 e s' I1 hq
  | ok fl =>
    cases fl with
    | ret u => exact I1.after hq
    | next => exact hq.elim
    | brk => exact hq.elim
    | cont => exact hq.elim
theorem pe_callG0 {k : Nat} {x : Str} {N : List Str} {Pp : List Nat} {bm : M Fl} {p pos : Pos} (D : DefG c J X.prog X.w X.K X.mg X.base k x N [] Pp bm) (hr : Room k X.A) (hgd : X.A.guards = some []) (hg : Gl X x) (tk : Takes X W) : PE X (.Call (.Name x p) [] [] pos) (tO c J W (callF N.length bm nilA)) := by
  obtain ⟨f, fd, G, hm, hk, hb⟩ := D.ex
  refine ⟨fun pins s σ H Q I h => ?_⟩
  have h := call_sp (c := c) (J := J) (ps := []) (P := Pp) (fun env as e q => by
    obtain ⟨h1, h2⟩ := fit_nil (Pp := Pp) (k := 0) env as e q
    exact ⟨h1, fun j i hj => by
      have := h2 j i hj
      rwa [Nat.zero_add] at this⟩) D.le h
  obtain ⟨env, S, F, g, q⟩ := h
  have q := q [] S H F [] g (Step.refl.post fun a h => plus_nil.mp h) (by simp only [RAs]; exact ⟨trivial, trivial⟩) apart_nil
  refine wpAny_Call_Name_kw (ld_glob I hg hm ?_ D.nd)
  refine PySem.W.callWith_K0 I.kIn hk ?_
  have b := hb s [] I.kIn rfl
  rw [List.append_nil] at b
  refine wpAny_call (codeAny_mono (G.run X.A X.stack s H ⟨[], []⟩ [] [] Q (WE W σ) hr hgd I.env0 b .nil q) fun r s' hq => ?_)
  cases r with
  | error e => exact passAt tk σ pins H s e s' I hq
  | ok fl =>
    cases fl with
    | ret u => exact I.after hq
    | next => exact hq.elim
    | brk => exact hq.elim
    | cont => exact hq.elim
end
end Mp
end
section
/-! Mp21: a law's end. -/
namespace Mp
open PySem PySem.Spec PyProof.Rows L2
/-- the law's def, called with the script -/
theorem law_goes {P : Program} {w : World} {K : PySem.W.Frag} {mg mb : Str → Option Value} {k : Nat} {fa a : Addr} {fd : FuncData} {x : Str} {sp : Sp} {s : Shared} {us : List Value} {ns : List Int}
    (KX : K.In s.heap) (n1 : s.heap.Ns mainGlobals mg) (n2 : s.heap.Ns builtinsNs mb) (n3 : ∀ x : Str, x ≠ "__name__" → mb x = bootBuiltins x) (nol : s.heap.NoLimit) (hg : s.gens = #[])
    (ha : s.heap.get? a = some { cls := .type "list", data := .seq us.toArray }) (hi : IntsAre us ns) (hl : ns.length ≤ sizeLine) (hr : Room k callerA)
    (F : ∀ base : Heap, K.In base → base.Ns mainGlobals mg → FnG P w K mg base k fa fd [x] sp) (bind : ∀ (s : Shared) (u : Value), BindsTo s fd ⟨[u], []⟩ [(x, u)])
    (hsp : ∀ H : Hp, Only H → SqL K H a (ns.map V.int) → sp [.ref a] H (fun v _ => v = .bl true) fun _ _ _ => False) :
    codeAny (model P w) callerA (.call (.ref fa) ⟨[.ref a], []⟩) (fun r s' => r = .ok (.ret (.bool true)) ∧ OldK s.heap s'.heap ∧ s'.os = s.os ∧ AllBare s'.gens) s := by
  have rv := vals_ints hi
  have lenV := hi.length
  have go : ∀ H : Hp, Only H → SqL K H a (ns.map V.int) → HOk P w H s.heap → (∀ b, H b ≠ none → b = a) → (H a ≠ none → K.lookup a = none) →
      codeAny (model P w) callerA (.call (.ref fa) ⟨[.ref a], []⟩) (fun r s' => r = .ok (.ret (.bool true)) ∧ OldK s.heap s'.heap ∧ s'.os = s.os ∧ AllBare s'.gens) s := by
    intro H only sq hok hA hK
    have bare : ∀ {b : Addr} {o : Obj} {es : Array DictEntry} {ep : Nat}, s.heap.get? b = some o → o.data = .dict es ep → H b = none := fun {b o es ep} e d => by
      cases q : H b with
      | none => rfl
      | some u =>
        have eb : b = a := hA b (by rw [q]; simp)
        rw [eb, ha] at e
        cases e
        exact nomatch (show Data.seq us.toArray _ = Data.dict es ep from d)
    have ns' : ∀ {b : Addr} {m : Str → Option Value}, s.heap.Ns b m → (hidT s.heap H).Ns b m := fun {b m} ⟨o, es, ep, e, d, r⟩ => ⟨o, es, ep, hidT_get e (bare e d), d, r⟩
    have kb : K.In (hidT s.heap H) := fun b o e => hidT_get (KX b o e) (by
      cases q : H b with
      | none => rfl
      | some u =>
        have eb : b = a := hA b (by rw [q]; simp)
        rw [eb] at e q
        rw [hK (by rw [q]; simp)] at e
        cases e)
    have md : Mod K mg (hidT s.heap H) := by
      obtain ⟨mc, h1, h2⟩ := nol
      exact ⟨kb, ns' n1, ⟨mb, ns' n2, n3⟩, mc, ns' h1, h2⟩
    have e0 : Env0 P w K mg (hidT s.heap H) callerA [] s H := ⟨rfl, md, fun b o e => of_hidT e, Nat.le_of_eq (hidT_size _ _), trivial, fun b hb => absurd (show b ∈ ([] : List Addr) from hb) (by simp), hok, .of_eq hg⟩
    refine codeAny_mono ((F _ kb (ns' n1)).run callerA [] s H ⟨[.ref a], []⟩ [.ref a] [.ref a] _ _ hr rfl e0 (bind s (.ref a)) (.cons rfl .nil) (hsp H only sq)) fun r s' h => ?_
    cases r with
    | error e =>
      obtain ⟨_, _, _, _, _, _, _, _, _, _, _, _, z⟩ := h
      exact z.elim
    | ok fl =>
      cases fl with
      | next => exact h.elim
      | brk => exact h.elim
      | cont => exact h.elim
      | ret u =>
        obtain ⟨v, H', os, bare', un, hok', rel, q⟩ := h
        obtain rfl : v = .bl true := q
        obtain rfl : u = Value.bool true := rel
        refine ⟨rfl, OldK.of_keep fun b o e => ?_, os, bare'⟩
        cases q : H b with
        | none => exact un.keep b o e q (fun z => by cases z) (by simp)
        | some t =>
          rcases only b with z | ⟨ob, xs, z⟩
          · rw [q] at z
            cases z
          · obtain ⟨e1, _⟩ := hok b _ z
            obtain ⟨e2, _⟩ := hok' b _ (un.frzs b ob _ z)
            rw [e] at e1
            cases e1
            exact e2
  cases hk : K.lookup a with
  | some o =>
    have e := KX a o hk
    rw [ha] at e
    cases e
    refine go (fun _ => none) (fun _ => .inl rfl) (.inr ⟨_, us.toArray, _, hk, rfl, rfl, rfl, by rw [List.size_toArray, lenV]; exact hl, by simpa using rv⟩) (fun b u z => ?_) (fun b z => absurd rfl z) fun z => absurd rfl z
    exact nomatch (show (none : Option HO) = some u from z)
  | none =>
    refine go (fun b => if b = a then some (.frz { cls := .type "list", data := .seq us.toArray } (.lst (ns.map V.int))) else none) (fun b => ?_) (.inl (.inr ⟨{ cls := .type "list", data := .seq us.toArray }, if_pos rfl⟩)) (fun b u z => ?_) (fun b z => ?_) fun _ => hk
    · by_cases hb : b = a
      · exact .inr ⟨_, _, if_pos hb⟩
      · exact .inl (if_neg hb)
    · by_cases hb : b = a
      · subst hb
        cases (if_pos rfl).symm.trans z
        exact ⟨ha, by rw [List.length_map]; exact hl, us, _, rv, ha⟩
      · cases (if_neg hb).symm.trans z
    · by_cases hb : b = a
      · exact hb
      · exact absurd (if_neg hb) z
theorem walk_ofG {l : PySem.W.OpenLaw} {n k : Nat} {q : Program} {loose : List Str} {XP : (Str → Option Value) → Heap → Prop} {YP : World → Heap → Prop} {d : DefRec} {x : Str}
    (hn : l.most = some n) (hn2 : n ≤ sizeLine) (hdf : d.params.defaults = []) (hr : Room k callerA)
    (F : ∀ (w : World) (mg : Str → Option Value) (fa : Addr) (h : Heap), YP w h → h.Ns mainGlobals mg → mg d.name = some (.ref fa) →
      ∃ (K : PySem.W.Frag) (fd : FuncData) (sp : Sp), K.In h ∧ (∀ (s : Shared) (u : Value), BindsTo s fd ⟨[u], []⟩ [(x, u)]) ∧
        (∀ (H : Hp) (a : Addr) (ns : List Int), ns.length ≤ n → (∀ z ∈ ns, Builtin.Int.intBits z ≤ 1048576) → Only H → SqL K H a (ns.map V.int) → sp [.ref a] H (fun v _ => v = .bl true) fun _ _ _ => False) ∧
        ∀ base : Heap, K.In base → base.Ns mainGlobals mg → FnG l.prog w K mg base k fa fd [x] sp) :
    PySem.W.WalkO q loose XP YP l.row.toRowW d [] (fun f vs => PySem.call f vs) := by
  refine Att.attach_callB hn hdf fun w s₀ s₁ mg mb fa o pm cd doc a vs ns G Y ho hd hcd hmg hobj hints hlen hbits hg => ?_
  obtain ⟨K, fd, sp, KX, hb, hsp, hF⟩ := F w mg fa _ Y G.T.g hmg
  exact law_goes KX G.T.g G.T.b G.T.builtins G.T.nolimit hg hobj hints (Nat.le_trans hlen hn2) hr hF hb fun H hO hS => hsp H a ns hlen hbits hO hS
/-- the law's promise, from what its body gives -/
theorem law_sp {c : Wd} {J : Hp → Prop} {N : List Str} {x : Str} {P : List Nat} {body : M Fl} {H : Hp} {a : Addr} {ns : List Int} (hJ : J H) (hS : SqL c.K H a (ns.map V.int)) (h : ∃ e, body (startE N.length [.sh (.scr ns)]) = (.ok (.rt (.sh (.bl true))), e)) :
    spM c J N [x] P body [.ref a] H (fun v _ => v = .bl true) fun _ _ _ => False := by
  obtain ⟨e, h⟩ := h
  obtain ⟨F, g, _⟩ := good_start (c := c) (J := J) (S := H) hJ (Same.refl H) (N.length - 1) (os := [.sh (.scr ns)]) (vs := [.ref a]) (A := []) (by simp only [Ros, Ro, Rep]; exact ⟨_, [], [], [], rfl, rfl, ⟨⟨a, rfl, hS⟩, rfl⟩, rfl, rfl⟩) List.nodup_nil
  refine ⟨rfl, [.sh (.scr ns)], H, F, rfl, g, ?_⟩
  rw [h]
  intro v σ' S' H' F' A' _ _ _ r _
  simp only [Ro, Rep] at r
  exact r.1
end Mp
end
section
/-! Mp22: the rules, in a context's terms. -/
namespace Mp
open PySem L2 PyProof.Rows
/-- what is known of a context -/
structure Ok (c : Wd) (J : Hp → Prop) (W : WX) (k : Nat) (X : Cx) : Prop where
  wo : WdOk c J
  K : X.K = c.K
  calm : X.calm = true
  nd : X.N.Nodup
  room : Room k X.A
  gd : X.A.guards = some []
  tk : Takes X W
/-- a name of a slot -/
structure Nm (X : Cx) (i : Nat) (x : Str) : Prop where
  N : X.N[i]? = some x
  v : Vis X.env.scope x
  d : (x == ("__debug__" : Str)) = false
  cd : (x == ("__classdict__" : Str)) = false
/-- a name that is stored -/
structure Nl (X : Cx) (i : Nat) (x : Str) : Prop where
  N : X.N[i]? = some x
  l : L2.Loc X.env.scope x
  f : X.fn x = true ∨ X.env.scope.names.lookup x = some .local
/-- a built-in's name -/
structure Bi (X : Cx) (x : Str) : Prop where
  g : Gl X x
  m : X.mg x = none
section
variable {c : Wd} {J : Hp → Prop} {W : WX} {k : Nat} {X : Cx} (ok : Ok c J W k X)
include ok
theorem Ok.u : X.A.units + 200 < cLine := by
  have := ok.room.un
  omega
theorem Ok.u1 : X.A.units + 1 < cLine := by
  have := ok.u
  omega
theorem Ok.u65 : X.A.units + 65 < cLine := by
  have := ok.u
  omega
theorem Ok.u80 : X.A.units + 80 < cLine := by
  have := ok.u
  omega
/-- a comprehension's inside -/
theorem Ok.blk {s : Shared} {H : Hp} {scope : Scope} {cenv : PySem.Env} {fp : List Addr} : Ok c J WF k (X.blk s H scope cenv fp) := ⟨ok.wo, ok.K, ok.calm, ok.nd, ok.room, ok.gd, takes0⟩
end
section
variable {c : Wd} {J : Hp → Prop} {W : WX} {k i : Nat} {X : Cx} {x : Str} {p pos : Pos}
theorem nV (n : Nm X i x) : PE X (.Name x pos) (tD c J W (getV i)) := pe_getV n.N n.v n.d n.cd
theorem nM (n : Nm X i x) : PE X (.Name x pos) (tO c J W (mvV i)) := pe_mvV n.N n.v n.d n.cd
theorem nL (n : Nm X i x) : PE X (.Name x pos) (tV c J W (lookV i)) := pe_lookV n.N n.v n.d n.cd
variable {a b e : Expr} {es : List Expr} {ma mb m : M D} {mo no : M O}
theorem eBin (ok : Ok c J W k X) {op : Operator} (ha : PE X a (tD c J W ma)) (hb : PE X b (tD c J W mb)) : PE X (.BinOp a op b pos) (tO c J W (bin (binF op) ma mb)) := pe_bin ok.wo ha hb
theorem eCmp (ok : Ok c J W k X) {op : CmpOp} (ha : PE X a (tD c J W ma)) (hb : PE X b (tD c J W mb)) (hm : behindInMarks op b = false := by rfl) : PT X (.Compare a [op] [b] pos) (tB c J W (cmpM (cmpF op) ma mb)) := pt_cmp ok.K ok.u65 ha hb hm
theorem eCmpV (ok : Ok c J W k X) {op : CmpOp} (ha : PE X a (tD c J W ma)) (hb : PE X b (tD c J W mb)) (hm : behindInMarks op b = false := by rfl) : PE X (.Compare a [op] [b] pos) (tD c J W (ofB (cmpM (cmpF op) ma mb))) := pe_cmpV ok.K ok.u65 ha hb hm
theorem eTru (ha : PE X a (tD c J W m)) (he : ∀ whole, isTrue a X.env whole = (do let v ← whole; standAt a.pos; holding [v] (truthy v)) := by intro _; rfl) : PT X a (tB c J W (tru m)) := pt_tru ha he
theorem eLen (ok : Ok c J W k X) (h : Bi X "len") (ha : PE X a (tD c J W m)) (he : starEach [a] X.env = [(false, eval a X.env)] := by rfl) : PE X (.Call (.Name "len" p) [a] [] pos) (tO c J W (callM lenF (consL m nilL))) :=
  pe_callBM ok.wo (call_lenF ok.K) h.g h.m PySem.boot_len (pa_consD ha pa_nilD he) (by decide) (by decide) he rfl
theorem eAbs (ok : Ok c J W k X) (h : Bi X "abs") (ha : PE X a (tD c J W m)) (he : starEach [a] X.env = [(false, eval a X.env)] := by rfl) : PE X (.Call (.Name "abs" p) [a] [] pos) (tO c J W (callM absF (consL m nilL))) :=
  pe_callBM ok.wo call_absF h.g h.m (by decide +kernel) (pa_consD ha pa_nilD he) (by decide) (by decide) he rfl
theorem eInt (ok : Ok c J W k X) (h : Bi X "int") (ha : PE X a (tD c J W m)) (he : starEach [a] X.env = [(false, eval a X.env)] := by rfl) : PE X (.Call (.Name "int" p) [a] [] pos) (tO c J W (callM intF (consL m nilL))) :=
  pe_callTM ok.wo call_intF h.g h.m (by decide +kernel) (pa_consD ha pa_nilD he) (by decide) (by decide) he rfl
theorem eTuple (ok : Ok c J W k X) (h : Bi X "tuple") (ha : PE X a (tD c J W m)) (he : starEach [a] X.env = [(false, eval a X.env)] := by rfl) : PE X (.Call (.Name "tuple" p) [a] [] pos) (tO c J W (callM tupleF (consL m nilL))) :=
  pe_callTM ok.wo call_tupleF h.g h.m (by decide +kernel) (pa_consD ha pa_nilD he) (by decide) (by decide) he rfl
theorem eList (ok : Ok c J W k X) (h : Bi X "list") (ha : PE X a (tD c J W m)) (he : starEach [a] X.env = [(false, eval a X.env)] := by rfl) : PE X (.Call (.Name "list" p) [a] [] pos) (tO c J W (callM listF (consL m nilL))) :=
  pe_callTM ok.wo call_listF h.g h.m (by decide +kernel) (pa_consD ha pa_nilD he) (by decide) (by decide) he rfl
theorem eRepr (ok : Ok c J W k X) (h : Bi X "repr") (ha : PE X a (tD c J W m)) (he : starEach [a] X.env = [(false, eval a X.env)] := by rfl) : PE X (.Call (.Name "repr" p) [a] [] pos) (tO c J W (callM reprF (consL m nilL))) :=
  pe_callBM ok.wo (call_reprF ok.K ok.gd ok.u80) h.g h.m (by decide +kernel) (pa_consD ha pa_nilD he) (by decide) (by decide) he rfl
theorem eMax (ok : Ok c J W k X) (h : Bi X "max") (ha : PE X a (tD c J W ma)) (hb : PE X b (tD c J W mb)) (he : starEach [a, b] X.env = (false, eval a X.env) :: starEach [b] X.env := by rfl) (he2 : starEach [b] X.env = [(false, eval b X.env)] := by rfl) (hp : (backTo pos (starEach [b] X.env)).any (·.1) = false := by rfl) :
    PE X (.Call (.Name "max" p) [a, b] [] pos) (tO c J W (callM max2F (consL ma (consL mb nilL)))) := pe_callBM ok.wo (call_max2F ok.calm) h.g h.m (by decide +kernel) (pa_consD ha (pa_consD hb pa_nilD he2) he) (by decide) (by decide) he hp
theorem eMin (ok : Ok c J W k X) (h : Bi X "min") (ha : PE X a (tD c J W ma)) (hb : PE X b (tD c J W mb)) (he : starEach [a, b] X.env = (false, eval a X.env) :: starEach [b] X.env := by rfl) (he2 : starEach [b] X.env = [(false, eval b X.env)] := by rfl) (hp : (backTo pos (starEach [b] X.env)).any (·.1) = false := by rfl) :
    PE X (.Call (.Name "min" p) [a, b] [] pos) (tO c J W (callM min2F (consL ma (consL mb nilL)))) := pe_callBM ok.wo (call_min2F ok.calm) h.g h.m (by decide +kernel) (pa_consD ha (pa_consD hb pa_nilD he2) he) (by decide) (by decide) he hp
theorem eIsi (h : Bi X "isinstance") {y : Str} {t : String} {p2 : Pos} (ha : PE X a (tD c J W m)) (hy : TyN X y t) (he : starEach [a, .Name y p2] X.env = [(false, eval a X.env), (false, eval (.Name y p2) X.env)] := by rfl) : PE X (.Call (.Name "isinstance" p) [a, .Name y p2] [] pos) (tD c J W (isiM [t] m)) :=
  pe_isi1 ha rfl h.g h.m hy he
theorem eIx (ok : Ok c J W k X) (ha : PE X a (tD c J W ma)) (hb : PE X b (tD c J W mb)) (hp : PlainIx b := by intro _ _; rfl) : PE X (.Subscript a b pos) (tD c J W (ixM ma mb)) := pe_ixM ok.u1 ha hb hp
theorem eVix (ok : Ok c J W k X) (n : Nm X i x) (hb : PE X b (tD c J W mb)) (hp : PlainIx b := by intro _ _; rfl) : PE X (.Subscript (.Name x p) b pos) (tD c J W (vixM i mb)) := pe_vixM ok.u1 n.N n.v n.d n.cd hb hp
theorem eVvx (ok : Ok c J W k X) (n : Nm X i x) (hb : PE X b (tD c J W mb)) (hp : PlainIx b := by intro _ _; rfl) : PE X (.Subscript (.Name x p) b pos) (tV c J W (vvxM i mb)) := pe_vvxM ok.u1 n.N n.v n.d n.cd hb hp
theorem eVlen (ok : Ok c J W k X) (h : Bi X "len") (ha : PE X a (tV c J W m)) (he : starEach [a] X.env = [(false, eval a X.env)] := by rfl) : PE X (.Call (.Name "len" p) [a] [] pos) (tD c J W (scal1 lenS m)) := pe_vlen ok.wo ok.K ha rfl h.g h.m he
theorem eTup (ok : Ok c J W k X) {ms : M (List D)} {n : Nat} (h : PA X es (tLD c J W ms)) : PE X (.Tuple es n pos) (tD c J W (tupM ms)) := pe_tupM ok.wo h
theorem eLst (ok : Ok c J W k X) {ms : M (List D)} (h : PA X es (tLD c J W ms)) : PE X (.List es pos) (tO c J W (lstM ms)) := pe_lstM ok.wo h
theorem eLstO (ok : Ok c J W k X) {ms : M (List O)} (h : PA X es (tL c J W ms)) : PE X (.List es pos) (tO c J W (lstO ms)) := pe_lstO ok.wo h
theorem eD0 (ok : Ok c J W k X) : PE X (.Dict [] [] pos) (tO c J W (ret (.dK [] []))) := pe_dK0 ok.wo
theorem aD {ms : M (List D)} (ha : PE X e (tD c J W m)) (hr : PA X es (tLD c J W ms)) (hs : starEach (e :: es) X.env = (false, eval e X.env) :: starEach es X.env := by rfl) : PA X (e :: es) (tLD c J W (consL m ms)) := pa_consD ha hr hs
theorem aO {ms : M (List O)} (ha : PE X e (tO c J W mo)) (hr : PA X es (tL c J W ms)) (hs : starEach (e :: es) X.env = (false, eval e X.env) :: starEach es X.env := by rfl) : PA X (e :: es) (tL c J W (consL mo ms)) := pa_consO ha hr hs
theorem rO {ms : M (List Ar)} (ha : PE X e (tO c J W mo)) (hr : PA X es (tAr c J W ms)) (hs : starEach (e :: es) X.env = (false, eval e X.env) :: starEach es X.env := by rfl) : PA X (e :: es) (tAr c J W (oA mo ms)) := pa_oA ha hr hs
theorem rB {ms : M (List Ar)} (n : Nm X i x) (hr : PA X es (tAr c J W ms)) (hs : starEach (.Name x p :: es) X.env = (false, eval (.Name x p) X.env) :: starEach es X.env := by rfl) : PA X (.Name x p :: es) (tAr c J W (bA i ms)) := pa_bA n.N n.v n.d n.cd hr hs
theorem eCall (ok : Ok c J W k X) {kf : Nat} {N ps : List Str} {Pp : List Nat} {bm : M Fl} {ms : M (List Ar)} (D : DefG c J X.prog X.w X.K X.mg X.base kf x N ps Pp bm) (hk : kf ≤ k) (hg : Gl X x) (hf : FitA ps.length Pp 0 ms) (ha : PA X (e :: es) (tAr c J W ms))
    (he : starEach (e :: es) X.env = (false, eval e X.env) :: starEach es X.env := by rfl) (hpl : (backTo pos (starEach es X.env)).any (·.1) = false := by rfl) : PE X (.Call (.Name x p) (e :: es) [] pos) (tO c J W (callF N.length bm ms)) :=
  pe_callG D (ok.room.mono hk) ok.gd hg ok.tk hf ha he hpl
theorem ePop (ok : Ok c J W k X) (n : Nm X i x) {p2 apos cpos : Pos} (hb : PE X b (tD c J W mb)) (hp : PlainIx b := by intro _ _; rfl)
    (hbase : attributeBase (.Subscript (.Name x p) b p2) "pop" X.env (eval (.Subscript (.Name x p) b p2) X.env) = eval (.Subscript (.Name x p) b p2) X.env := by rfl) (hline : (apos.endLine == cpos.line) = true := by rfl) :
    PE X (.Call (.Attribute (.Subscript (.Name x p) b p2) "pop" apos) [] [] cpos) (tO c J W (mutK "list" i mb popF nilL)) := pe_mutK0 ok.wo ok.u1 mut_pop PySem.F.plainAttrs_list PySem.F.slot_list_pop PySem.F.type_list_pop mt_pop n.N n.v n.d n.cd hb hp hbase hline
theorem ePop0 (ok : Ok c J W k X) (n : Nm X i x) {apos cpos : Pos} (hbase : attributeBase (.Name x p) "pop" X.env (eval (.Name x p) X.env) = eval (.Name x p) X.env := by rfl) (hline : (apos.endLine == cpos.line) = true := by rfl) :
    PE X (.Call (.Attribute (.Name x p) "pop" apos) [] [] cpos) (tO c J W (mutN "list" i popF nilL)) := pe_mutN0 ok.wo mut_pop PySem.F.plainAttrs_list PySem.F.slot_list_pop PySem.F.type_list_pop mt_pop n.N n.v n.d n.cd hbase hline
theorem eApp (ok : Ok c J W k X) (n : Nm X i x) {apos cpos : Pos} (ha : PE X a (tO c J W mo)) (he : starEach [a] X.env = [(false, eval a X.env)] := by rfl) (hbase : attributeBase (.Name x p) "append" X.env (eval (.Name x p) X.env) = eval (.Name x p) X.env := by rfl)
    (hfew : ((backTo cpos (starEach [a] X.env)).all (fun x => !x.1) && (backToKw cpos (keywordEach [] X.env)).all (fun x => x.1.isSome)
      && decide (([a] : List Expr).length + ([] : List Keyword).length + (if ([] : List Keyword).isEmpty then 0 else 1) < 30)) = true := by rfl) (hline : (apos.endLine == cpos.line) = true := by rfl) :
    PE X (.Call (.Attribute (.Name x p) "append" apos) [a] [] cpos) (tO c J W (mutN "list" i appF (consL mo nilL))) := pe_mutN ok.wo mut_app PySem.F.plainAttrs_list PySem.F.slot_list_append PySem.F.type_list_append mt_append n.N n.v n.d n.cd (pa_consO ha pa_nilO he) hbase hfew hline he rfl
def negM (m : M D) : M D := bnd m fun d => match d with
  | .int i => ret (.int (-i))
  | _ => bad
theorem eNeg (ha : PE X a (tD c J W m)) : PE X (.UnaryOp .USub a pos) (tD c J W (negM m)) := by
  refine PE.mono (pe_un un_neg ha) fun σ H Q ⟨env, S, F, g, q⟩ => ?_
  refine ⟨env, S, F, g, Fin.seq0 q fun d env1 v S1 H1 F1 A1 e1 g1 s1 r1 ap1 q => ?_⟩
  obtain ⟨r1, rfl⟩ := r1
  cases d <;> first | exact q.elim | skip
  simp only [Rep] at r1
  exact ⟨_, r1, Fin.okD g1 q.unil (by simp only [Rep])⟩
theorem eSlice (ok : Ok c J W k X) {l h : Option Expr} {lo hi : M (Option Int)} {p2 : Pos} (he : PE X e (tD c J W m)) (hl : PO X l (tP c J W lo)) (hh : PO X h (tP c J W hi)) : PE X (.Subscript e (.Slice l h none p2) pos) (tO c J W (sliceM m lo hi)) := pe_sliceM ok.wo he hl hh
theorem eRev (ok : Ok c J W k X) {j : Nat} {p1 p2 p3 : Pos} (he : PE X e (tD c J W m)) : PE X (.Subscript e (.Slice none none (some (.UnaryOp .USub (.Constant (.int 1) j p1) p2)) p3) pos) (tO c J W (revM m)) := pe_revM ok.wo he
theorem eDisp (ok : Ok c J W k X) {keys : List (Option Expr)} {values : List Expr} {ks : List Kb} {ms : M (List O)} (h : PD c J W X pos keys values ks ms) (nd : ks.Nodup := by decide) (hall : keys.all (·.isSome) = true := by rfl) (hl : keys.length = values.length := by rfl) (h0 : keys ≠ [] := by simp) (h15 : keys.length ≤ 15 := by decide) (hk : ks.length = keys.length := by rfl) :
    PE X (.Dict keys values pos) (tO c J W (dispM ks ms)) := pe_dispM ok.wo h nd hall hl h0 h15 hk
theorem kStr {x : Str} {s : Sg} {j : Nat} (e : x = toStr s) : PE X (.Constant (.str x) j pos) (tC (kV (Kb.s s).key)) := by
  subst e
  exact pe_str
theorem kInt {n : Int} {j : Nat} : PE X (.Constant (.int n) j pos) (tC (kV (Kb.i n).key)) := pe_int
theorem eLc (ok : Ok c J W k X) {elt te iter : Expr} {ifs : List Expr} {scope : Scope} {own : List (Str × Nat)} {tg : Tg} {t : M Bool} {ms : M (List D)} (hi : PIs c J W X te iter ms) (okb : BlkOk X.N X.env.scope scope own)
    (hg : ∀ (s : Shared) (H : Hp) (C : Addr) (cl : List (Str × Addr)) (fp : List Addr), Ok c J WF k (X.blk s H scope (compEnvC scope cl C X.env) fp) → TgX (X.blk s H scope (compEnvC scope cl C X.env) fp) c.K te tg)
    (ht : ∀ (s : Shared) (H : Hp) (C : Addr) (cl : List (Str × Addr)) (fp : List Addr), Ok c J WF k (X.blk s H scope (compEnvC scope cl C X.env) fp) → PTs (X.blk s H scope (compEnvC scope cl C X.env) fp) ifs (tB c J WF t))
    (he : ∀ (s : Shared) (H : Hp) (C : Addr) (cl : List (Str × Addr)) (fp : List Addr), Ok c J WF k (X.blk s H scope (compEnvC scope cl C X.env) fp) → PE (X.blk s H scope (compEnvC scope cl C X.env) fp) elt (tO c J WF mo)) (hv : tg.ins (own.map (·.2)) = true := by decide) (hs : ∀ x, foldedSetIterable iter X.env x = pure x := by intro _; rfl) :
    PE X (.ListComp elt [⟨te, iter, ifs, 0⟩] scope pos) (tO c J W (lcM (own.map (·.2)) tg t mo ms)) :=
  pe_lcM ok.wo ok.calm ok.nd hi okb hv (fun s H C cl fp => hg s H C cl fp ok.blk) (fun s H C cl fp => ht s H C cl fp ok.blk) (fun s H C cl fp => he s H C cl fp ok.blk) hs
def Tg.outB (P : List Nat) : Tg → Bool
  | .nm i => decide (i ∉ P)
  | .tp is => is.all fun i => decide (i ∉ P)
theorem outB_out {P : List Nat} {tg : Tg} (h : tg.outB P = true) : tg.out P := by
  cases tg with
  | nm i => simpa [Tg.outB, Tg.out] using h
  | tp is => exact fun i hi => by simpa using (List.all_eq_true.mp h) i hi
/-! ### statements -/
variable {P : List Nat} {body : List Stmt} {tg : Tg} {te iter : Expr} {ms : M (List D)} {mf nf : M Fl} {t : M Bool}
theorem sSet (ok : Ok c J W k X) (n : Nl X i x) (he : PE X e (tO c J W mo)) (hiP : i ∉ P := by decide) {pos' : Pos} (hs : swapsWith e (some (.Name x pos')) pos.line X.env = pure false := by rfl) : PS X (.Assign [.Name x pos'] e pos) (tS c J W P (setM i mo)) := ps_setM ok.nd n.N n.l hiP he hs n.f
theorem sSetD (ok : Ok c J W k X) (n : Nl X i x) (he : PE X e (tD c J W m)) (hiP : i ∉ P := by decide) {pos' : Pos} (hs : swapsWith e (some (.Name x pos')) pos.line X.env = pure false := by rfl) : PS X (.Assign [.Name x pos'] e pos) (tS c J W P (setM i (own m))) := sSet ok n (pe_own he) hiP hs
theorem sPar (ok : Ok c J W k X) {j : Nat} {y : Str} {ml : M (List O)} {px py pt pt2 : Pos} {kt k2 : Nat} (n : Nl X i x) (n2 : Nl X j y) (ha : PA X [a, b] (tL c J W ml)) (hij : i ≠ j := by decide) (hP : ∀ k ∈ [i, j], k ∉ P := by decide) (hx : X.env.scope.names.lookup x = some .local := by rfl) (hy : X.env.scope.names.lookup y = some .local := by rfl)
    (hw : swappedStores [.Tuple [.Name x px, .Name y py] kt pt] (.Tuple [a, b] k2 pt2) X.env = pure (some [x, y]) := by rfl) : PS X (.Assign [.Tuple [.Name x px, .Name y py] kt pt] (.Tuple [a, b] k2 pt2) pos) (tS c J W P (parM [i, j] ml)) :=
  ps_par2 ok.calm ok.nd n.N n2.N hij hP hx hy ha hw
theorem gNm (ok : Ok c J W k X) (n : Nl X i x) : TgX X c.K (.Name x pos) (.nm i) := tgx_nm ok.nd n.N n.l n.f
theorem gsN (ok : Ok c J W k X) {es : List Expr} {is : List Nat} (n : Nl X i x) (hr : PGs X es (gNames is)) : PGs X (.Name x pos :: es) (gNames (i :: is)) := pgs_cons (pg_name ok.nd n.N n.l n.f) hr (by first | rfl | (intros; rfl))
theorem gTp (ok : Ok c J W k X) {es : List Expr} {is : List Nat} {n : Nat} (h : PGs X es (gNames is)) (hn : (assignEach es X.env).length = is.length := by rfl) (hst : (assignEach es X.env).findIdx? (fun x => x.1) = none := by rfl) : TgX X c.K (.Tuple es n pos) (.tp is) := ⟨by
  rw [← ok.K]
  exact pg_tup ok.calm h hn hst⟩
theorem sAsg (ok : Ok c J W k X) (ht : TgX X c.K te tg) (he : PE X e (tD c J W m)) (hP : tg.outB P = true := by decide) (hs : swapsWithSole [te] e pos.line X.env = pure false := by rfl) (hw : swappedStores [te] e X.env = pure none := by rfl) (h1 : (assignEach [te] X.env).map (fun x => x.2) = [assign te X.env] := by rfl) :
    PS X (.Assign [te] e pos) (tS c J W P (asgM tg m)) := ps_asgM ok.K (outB_out hP) ht he hs hw h1
theorem sSetK (ok : Ok c J W k X) (n : Nm X i x) {p tpos pos : Pos} (hk : PE X b (tD c J W mb)) (he : PE X e (tO c J W mo)) (hs : swapsWithSole [.Subscript (.Name x p) b tpos] e pos.line X.env = pure false := by rfl) (hw : swappedStores [.Subscript (.Name x p) b tpos] e X.env = pure none := by rfl)
    (h1 : (assignEach [.Subscript (.Name x p) b tpos] X.env).map (fun x => x.2) = [assign (.Subscript (.Name x p) b tpos) X.env] := by rfl)
    (hass : ∀ v, assign (.Subscript (.Name x p) b tpos) X.env v = (do
      let ov ← holding [v] (eval (.Name x p) X.env)
      let iv ← holding [v, ov] (eval b X.env)
      standAt tpos
      holding [v, ov, iv] (setItem ov iv v)
      release [v, ov, iv] []) := by intro _; rfl) : PS X (.Assign [.Subscript (.Name x p) b tpos] e pos) (tS c J W P (setKM i mb mo)) := ps_setKM ok.wo ok.u1 n.N n.v n.d n.cd hk he hs hw h1 hass
theorem sSetLc (ok : Ok c J W k X) {elt te iter : Expr} {ifs : List Expr} {scope : Scope} {own : List (Str × Nat)} {spos py : Pos} {t : M Bool} {ms : M (List D)} (n : Nl X i x) (hi : PIs c J W X te iter ms) (okb : BlkOk X.N X.env.scope scope own)
    (hg : ∀ (s : Shared) (H : Hp) (C : Addr) (cl : List (Str × Addr)) (fp : List Addr), Ok c J WF k (X.blk s H scope (compEnvC scope cl C X.env) fp) → TgX (X.blk s H scope (compEnvC scope cl C X.env) fp) c.K te tg)
    (ht : ∀ (s : Shared) (H : Hp) (C : Addr) (cl : List (Str × Addr)) (fp : List Addr), Ok c J WF k (X.blk s H scope (compEnvC scope cl C X.env) fp) → PTs (X.blk s H scope (compEnvC scope cl C X.env) fp) ifs (tB c J WF t))
    (he : ∀ (s : Shared) (H : Hp) (C : Addr) (cl : List (Str × Addr)) (fp : List Addr), Ok c J WF k (X.blk s H scope (compEnvC scope cl C X.env) fp) → PE (X.blk s H scope (compEnvC scope cl C X.env) fp) elt (tO c J WF mo)) (hiP : i ∉ P := by decide) (hv : tg.ins (own.map (·.2)) = true := by decide)
    (hyl : X.env.scope.names.lookup x = some .local := by rfl) (hsw : swapsWith (.ListComp elt [⟨te, iter, ifs, 0⟩] scope pos) (some (.Name x py)) spos.line X.env = pure true := by rfl) (hs : ∀ x, foldedSetIterable iter X.env x = pure x := by intro _; rfl) :
    PS X (.Assign [.Name x py] (.ListComp elt [⟨te, iter, ifs, 0⟩] scope pos) spos) (tS c J W P (setM i (lcM (own.map (·.2)) tg t mo ms))) :=
  ps_setLcM ok.wo ok.calm ok.nd n.N hyl hiP hsw hi okb hv (fun s H C cl fp => hg s H C cl fp ok.blk) (fun s H C cl fp => ht s H C cl fp ok.blk) (fun s H C cl fp => he s H C cl fp ok.blk) hs
theorem wRng1 (h : Bi X "range") {ms : M (List D)} (ha : PA X [a] (tLD c J W ms)) (hs : starEach [a] X.env = [(false, eval a X.env)] := by rfl) : PIs c J W X te (.Call (.Name "range" p) [a] [] pos) (rng1M ms) := pis_rng1 h.g h.m ha hs
theorem wRng2 (h : Bi X "range") {ms : M (List D)} (ha : PA X [a, b] (tLD c J W ms)) (hs : starEach [a, b] X.env = [(false, eval a X.env), (false, eval b X.env)] := by rfl) (hs2 : starEach [b] X.env = [(false, eval b X.env)] := by rfl) : PIs c J W X te (.Call (.Name "range" p) [a, b] [] pos) (rng2M ms) := pis_rng2 h.g h.m ha hs hs2
theorem wZip (ok : Ok c J W k X) (h : Bi X "zip") {ms : M (List D)} {tpos : Pos} {elts : List Expr} {kk : Nat} (ha : PA X [a, b] (tLD c J W ms)) (hs : starEach [a, b] X.env = (false, eval a X.env) :: starEach [b] X.env := by rfl) (hpl : (backTo pos (starEach [b] X.env)).any (·.1) = false := by rfl) :
    PIs c J W X (.Tuple elts kk tpos) (.Call (.Name "zip" p) [a, b] [] pos) (zipM ms) := pis_zip ok.K h.g h.m ha hs hpl
theorem wVal (ok : Ok c J W k X) (ha : PE X e (tD c J W m)) : PIs c J W X te e (valM m) := pis_valM ok.K ha
theorem sRet (he : PE X e (tO c J W mo)) : PS X (.Return (some e) pos) (tS c J W P (retM mo)) := ps_retM he
theorem sRetD (he : PE X e (tD c J W m)) : PS X (.Return (some e) pos) (tS c J W P (retM (own m))) := ps_retM (pe_own he)
theorem sWhile (n : Nat) (hp : PassesOwn (model X.prog X.w) X.A X.env X.xe) (ht : PT X e (tB c J W t)) (hb : PSs X body (tS c J W P mf)) : PS X (.While e body [] pos) (tS c J W P (whileM n t mf)) := ps_whileM n hp ht hb
theorem sFor (ok : Ok c J W k X) (hp : PassesOwn (model X.prog X.w) X.A X.env X.xe) (hi : PIs c J W X te iter ms) (ht : TgX X c.K te tg) (hb : PSs X body (tS c J W P mf)) (hP : tg.outB P = true := by decide) (hs : ∀ x, foldedSetIterable iter X.env x = pure x := by intro _; rfl) :
    PS X (.For te iter body [] pos) (tS c J W P (forM tg ms mf)) := ps_forM ok.wo hp ok.calm (outB_out hP) hi ht hb hs
end
/-- the context of a def's body -/
theorem ok_fn {c : Wd} {J : Hp → Prop} {k : Nat} {P : Program} {w : World} {K : PySem.W.Frag} {mg : Str → Option Value} {base : Heap} {N : List Str} {qual : Str} {scope : Scope} {f : Addr} {cdv : Value} {A : Around} {outer : List PySem.Env} {s : Shared} {H : Hp} {E : XK} (wo : WdOk c J) (hK : K = c.K) (hN : N.Nodup)
    (hr : Room k (A.deeper (envOfC qual scope s.heap.objs.size f cdv))) (hg : A.guards = some []) : Ok c J (fun cls d _ H => E cls d H) k (cxOf (L2.CX P w) P w K mg base N qual scope f cdv A outer s H E) :=
  ⟨wo, hK, rfl, hN, hr, hg, takes_of rfl rfl rfl rfl⟩
theorem po_fn {P : Program} {w : World} {K : PySem.W.Frag} {mg : Str → Option Value} {base : Heap} {N : List Str} {qual : Str} {scope : Scope} {f : Addr} {cdv : Value} {A : Around} {outer : List PySem.Env} {s : Shared} {H : Hp} {E : XK} {X : Cx} (h : X = cxOf (L2.CX P w) P w K mg base N qual scope f cdv A outer s H E := by rfl) : PassesOwn (model X.prog X.w) X.A X.env X.xe := by
  subst h
  exact passes_of rfl
end Mp
end
section
/-! Mp23: what the programs over environments give, applied. -/
namespace Mp
section
variable {α β : Type} {env : Env} {i n : Nat} {o : O} {d : D}
theorem v_bnd {m : M α} {f : α → M β} : bnd m f env = match m env with
  | (.ok a, e1) => f a e1
  | (.ex x, e1) => (.ex x, e1)
  | (.bad, e1) => (.bad, e1) := rfl
theorem v_ret {a : α} : Mp.ret a env = (.ok a, env) := rfl
theorem v_lift {o : Option α} : lift o env = match o with
  | some a => (.ok a, env)
  | none => (.bad, env) := rfl
theorem v_bad : (bad : M α) env = (.bad, env) := rfl
theorem v_shr {m : M O} : shr m env = bnd m (fun o => Mp.ret o.share) env := rfl
theorem v_own {m : M D} : own m env = bnd m (fun d => Mp.ret (.sh d)) env := rfl
theorem v_getV : getV i env = match env[i]? with
  | some (some (.sh d)) => (.ok d, env)
  | some (some o) => (.ok o.share, env.set i (some (.sh o.share)))
  | _ => (.bad, env) := rfl
theorem v_bin {f : D → D → Option O} {a b : M D} : Mp.bin f a b env = bnd a (fun x => bnd b fun y => lift (f x y)) env := rfl
theorem v_cmpM {f : D → D → Option Bool} {a b : M D} : cmpM f a b env = bnd a (fun x => bnd b fun y => lift (f x y)) env := rfl
theorem v_ofB {m : M Bool} : ofB m env = bnd m (fun b => Mp.ret (.bl b)) env := rfl
theorem v_tru {m : M D} : tru m env = bnd m (fun d => lift (truF d)) env := rfl
theorem v_notM {m : M Bool} : notM m env = bnd m (fun b => Mp.ret (!b)) env := rfl
theorem v_andM {m k : M Bool} : andM m k env = bnd m (fun b => if b then k else Mp.ret false) env := rfl
theorem v_orM {m k : M Bool} : orM m k env = bnd m (fun b => if b then Mp.ret true else k) env := rfl
theorem v_andV {m k : M D} : andV m k env = bnd m (fun d => bnd (lift (truF d)) fun b => if b then k else Mp.ret d) env := rfl
theorem v_orV {m k : M D} : orV m k env = bnd m (fun d => bnd (lift (truF d)) fun b => if b then Mp.ret d else k) env := rfl
theorem v_iteM {t : M Bool} {m k : M α} : iteM t m k env = bnd t (fun b => if b then m else k) env := rfl
theorem v_nilL : (nilL : M (List α)) env = (.ok [], env) := rfl
theorem v_consL {m : M α} {ms : M (List α)} : consL m ms env = bnd m (fun x => bnd ms fun xs => Mp.ret (x :: xs)) env := rfl
theorem v_tupM {ms : M (List D)} : tupM ms env = bnd ms (fun ds => if ds.length ≤ lim then Mp.ret (.tup ds) else bad) env := rfl
theorem v_lstM {ms : M (List D)} : lstM ms env = bnd ms (fun ds => if ds.length ≤ lim then Mp.ret (.lst (ds.map .sh)) else bad) env := rfl
theorem v_callM {f : List D → Option O} {ms : M (List D)} : callM f ms env = bnd ms (fun ds => lift (f ds)) env := rfl
theorem v_negM {m : M D} : negM m env = bnd m (fun d => match d with
  | .int i => Mp.ret (.int (-i))
  | _ => bad) env := rfl
theorem v_ixM {a b : M D} : ixM a b env = bnd a (fun x => bnd b fun y => lift (ixF x y)) env := rfl
theorem v_lookV : lookV i env = match env[i]? with
  | some (some o) => (.ok o.share, env)
  | _ => (.bad, env) := rfl
theorem v_vixM {mb : M D} : vixM i mb env = match env[i]? with
  | some (some _) => bnd mb (fun b env => match env[i]? with
    | some (some o) => match itemO o b with
      | some (.sh d) => (.ok d, env)
      | _ => (.bad, env)
    | _ => (.bad, env)) env
  | _ => (.bad, env) := rfl
theorem v_vvxM {mb : M D} : vvxM i mb env = match env[i]? with
  | some (some _) => bnd mb (fun b env => match env[i]? with
    | some (some o) => match itemO o b with
      | some it => (.ok it.share, env)
      | _ => (.bad, env)
    | _ => (.bad, env)) env
  | _ => (.bad, env) := rfl
theorem v_scal1 {f : D → Option D} {m : M D} : scal1 f m env = bnd m (fun d => lift (f d)) env := rfl
theorem v_noE : noE env = (.ok none, env) := rfl
theorem v_someE {m : M D} : someE m env = bnd m (fun d => match d with
  | .int i => Mp.ret (some i)
  | _ => bad) env := rfl
theorem v_sliceM {m : M D} {lo hi : M (Option Int)} : sliceM m lo hi env = bnd m (fun d => bnd lo fun l => bnd hi fun h => lift (sliceF d l h)) env := rfl
theorem v_revM {m : M D} : revM m env = bnd m (fun d => lift (revF d)) env := rfl
theorem v_isiM {ts : List String} {m : M D} : isiM ts m env = bnd m (fun d => bnd (lift (isiF ts d)) fun b => Mp.ret (.bl b)) env := rfl
theorem v_skipM : skipM env = (.ok .nx, env) := rfl
theorem v_seqM {m k : M Fl} : seqM m k env = match m env with
  | (.ok .nx, e1) => k e1
  | (.ok f, e1) => (.ok f, e1)
  | (.ex x, e1) => (.ex x, e1)
  | (.bad, e1) => (.bad, e1) := by
  unfold seqM bnd
  rcases m env with ⟨r, e1⟩
  cases r with
  | ok f => cases f <;> rfl
  | ex x => rfl
  | bad => rfl
theorem v_retM {m : M O} : retM m env = bnd m (fun o => Mp.ret (.rt o)) env := rfl
theorem v_dropM {m : M O} : dropM m env = bnd m (fun _ => Mp.ret .nx) env := rfl
theorem v_ifM {t : M Bool} {m k : M Fl} : ifM t m k env = bnd t (fun b => if b then m else k) env := rfl
theorem v_putV : putV i o env = if i < env.length then (.ok .nx, env.set i (some o)) else (.bad, env) := rfl
theorem v_setM {m : M O} : setM i m env = bnd m (fun o => putV i o) env := rfl
theorem v_puts0 : putsM [] [] env = (.ok .nx, env) := rfl
theorem v_puts1 {is : List Nat} {os : List O} : putsM (i :: is) (o :: os) env = seqM (putV i o) (putsM is os) env := rfl
theorem v_parM {is : List Nat} {ms : M (List O)} : parM is ms env = bnd ms (fun os => if os.length = is.length then putsM is os else bad) env := rfl
theorem v_bindN {d : D} : bindT (.nm i) d env = putV i (.sh d) env := rfl
theorem v_bindT {is : List Nat} {ds : List D} : bindT (.tp is) (.tup ds) env = (if ds.length = is.length then putsM is (ds.map .sh) else bad) env := rfl
theorem v_asgM {tg : Tg} {m : M D} : asgM tg m env = bnd m (fun d => bindT tg d) env := rfl
theorem v_forM {tg : Tg} {ms : M (List D)} {b : M Fl} : forM tg ms b env = bnd ms (fun ds => loopM tg b ds) env := rfl
theorem v_loop0 {tg : Tg} {b : M Fl} : loopM tg b [] env = (.ok .nx, env) := rfl
theorem v_loop1 {tg : Tg} {b : M Fl} {d : D} {ds : List D} : loopM tg b (d :: ds) env = match seqM (bindT tg d) b env with
  | (.ok .nx, e1) => loopM tg b ds e1
  | (.ok .ct, e1) => loopM tg b ds e1
  | (.ok .bk, e1) => (.ok .nx, e1)
  | (.ok (.rt o), e1) => (.ok (.rt o), e1)
  | (.ex x, e1) => (.ex x, e1)
  | (.bad, e1) => (.bad, e1) := by
  show bnd (seqM (bindT tg d) b) (onF (loopM tg b ds)) env = _
  unfold bnd
  rcases seqM (bindT tg d) b env with ⟨r, e1⟩
  cases r with
  | ok f => cases f <;> rfl
  | ex x => rfl
  | bad => rfl
theorem v_while {t : M Bool} {b : M Fl} : whileM (n + 1) t b env = match t env with
  | (.ok true, e1) => (match b e1 with
    | (.ok .nx, e2) => whileM n t b e2
    | (.ok .ct, e2) => whileM n t b e2
    | (.ok .bk, e2) => (.ok .nx, e2)
    | (.ok (.rt o), e2) => (.ok (.rt o), e2)
    | (.ex x, e2) => (.ex x, e2)
    | (.bad, e2) => (.bad, e2))
  | (.ok false, e1) => (.ok .nx, e1)
  | (.ex x, e1) => (.ex x, e1)
  | (.bad, e1) => (.bad, e1) := by
  show bnd t (fun k => if k then bnd b (onF (whileM n t b)) else Mp.ret .nx) env = _
  unfold bnd
  rcases t env with ⟨r, e1⟩
  cases r with
  | ok k =>
    cases k with
    | false => rfl
    | true =>
      simp only [if_true]
      rcases b e1 with ⟨r, e2⟩
      cases r with
      | ok f => cases f <;> rfl
      | ex x => rfl
      | bad => rfl
  | ex x => rfl
  | bad => rfl
theorem v_valM {m : M D} : valM m env = bnd m (fun d => lift (itemsD d)) env := rfl
theorem v_rng1M {ms : M (List D)} : rng1M ms env = bnd ms (fun ds => lift (rng1F ds)) env := rfl
theorem v_rng2M {ms : M (List D)} : rng2M ms env = bnd ms (fun ds => lift (rng2F ds)) env := rfl
theorem v_zipM {ms : M (List D)} : zipM ms env = bnd ms (fun ds => lift (zipF ds)) env := rfl
theorem v_setKM {mk : M D} {m : M O} : setKM i mk m env = bnd m (fun p env => match env[i]? with
  | some (some _) => bnd mk (fun k env => match env[i]? with
    | some (some o) => match setF o k p with
      | some o' => (.ok .nx, env.set i (some o'))
      | none => (.bad, env)
    | _ => (.bad, env)) env
  | _ => (.bad, env)) env := rfl
theorem v_mutN {T : String} {f : O → List O → Option (O × O)} {ms : M (List O)} : mutN T i f ms env = match env[i]? with
  | some (some o0) => if isT T o0 then bnd ms (fun os env => match env[i]? with
    | some (some o) => match f o os with
      | some (o', res) => (.ok res, env.set i (some o'))
      | none => (.bad, env)
    | _ => (.bad, env)) env else (.bad, env)
  | _ => (.bad, env) := rfl
theorem v_mutK {T : String} {mk : M D} {f : O → List O → Option (O × O)} {ms : M (List O)} : mutK T i mk f ms env = match env[i]? with
  | some (some _) => bnd mk (fun k env => match env[i]? with
    | some (some o) => match itemO o k with
      | some so => if nsh so && isT T so then bnd ms (fun os env2 => match f so os with
        | some (so', res) => (.ok res, env2.set i (some (putO o k so')))
        | none => (.bad, env2)) (env.set i none) else (.bad, env)
      | none => (.bad, env)
    | _ => (.bad, env)) env
  | _ => (.bad, env) := rfl
theorem v_dispM {ks : List Kb} {ms : M (List O)} : dispM ks ms env = bnd ms (fun os => if os.length = ks.length then Mp.ret (.dK ks os) else bad) env := rfl
theorem v_nilA : nilA env = (.ok [], env) := rfl
theorem v_oA {m : M O} {ms : M (List Ar)} : oA m ms env = bnd m (fun x => bnd ms fun xs => Mp.ret (.o x :: xs)) env := rfl
theorem v_bA {ms : M (List Ar)} : bA i ms env = match env[i]? with
  | some (some _) => bnd ms (fun xs => Mp.ret (.b i :: xs)) env
  | _ => (.bad, env) := rfl
/-- a call whose arguments give as, whose body gives o -/
theorem v_callF {body : M Fl} {ms : M (List Ar)} : callF n body ms env = match ms env with
  | (.ok as, e0) => (match takeA as e0 with
    | some (os, e1) => (match body (startE n os) with
      | (.ok (.rt o), e2) => (.ok o, backA as 0 e2 e1)
      | (.ok .nx, e2) => (.ok (.sh .non), backA as 0 e2 e1)
      | (.ok _, _) => (.bad, e0)
      | (.ex x, e2) => (.ex x, backA as 0 e2 e1)
      | (.bad, _) => (.bad, e0))
    | none => (.bad, e0))
  | (.ex x, e0) => (.ex x, e0)
  | (.bad, e0) => (.bad, e0) := by
  unfold callF bnd
  rcases ms env with ⟨r, e0⟩
  cases r with
  | ok as =>
    rcases ht : takeA as e0 with _ | ⟨os, e1⟩
    · simp [ht]
    · rcases hz : body (startE n os) with ⟨r, e2⟩
      cases r with
      | ok f => cases f <;> simp [ht, hz]
      | ex x => simp [ht, hz]
      | bad => simp [ht, hz]
  | ex x => rfl
  | bad => rfl
end
/-- the slot's sign alone -/
theorem cmp_ne {a b : Int} : cmpF .NotEq (.int a) (.int b) = some (!(decide (a = b))) := by
  simp only [cmpF, eqF, okD, deq, notB, Bool.and_self, if_true]
  rfl
theorem cmp_eq {a b : Int} : cmpF .Eq (.int a) (.int b) = some (decide (a = b)) := by
  simp only [cmpF, eqF, okD, deq, notB, Bool.and_self, if_true]
  rfl
theorem cmp_lt {a b : Int} : cmpF .Lt (.int a) (.int b) = some (decide (a < b)) := rfl
theorem cmp_gt {a b : Int} : cmpF .Gt (.int a) (.int b) = some (decide (b < a)) := rfl
theorem cmp_le {a b : Int} : cmpF .LtE (.int a) (.int b) = some (decide (a ≤ b)) := rfl
theorem cmp_ge {a b : Int} : cmpF .GtE (.int a) (.int b) = some (decide (b ≤ a)) := rfl
theorem bin_add {a b : Int} : binF .Add (.int a) (.int b) = some (.sh (.int (a + b))) := rfl
theorem bin_sub {a b : Int} : binF .Sub (.int a) (.int b) = some (.sh (.int (a - b))) := rfl
theorem bin_mul {a b : Int} : binF .Mult (.int a) (.int b) = if mulOk a b then some (.sh (.int (a * b))) else none := rfl
theorem bin_mod {a b : Int} : binF .Mod (.int a) (.int b) = if b ≠ 0 then some (.sh (.int (a.fmod b))) else none := rfl
theorem bin_div {a b : Int} : binF .FloorDiv (.int a) (.int b) = if decide (b ≠ 0) && decide (b.natAbs.log2 < 9000) then some (.sh (.int (a.fdiv b))) else none := rfl
/-! ### comprehensions, loops -/
theorem lcL_map {vs : List Nat} {tg : Tg} {t : M Bool} {m : M O} (env0 : Env) (g : D → Option O) : ∀ ds : List D,
    (∀ d ∈ ds, ∃ e1, bindT tg d env0 = (.ok .nx, e1) ∧ ∃ b e2, t e1 = (.ok b, e2) ∧ ((b = false ∧ g d = none ∧ wipeE e2 vs = env0) ∨ (b = true ∧ ∃ o e3, m e2 = (.ok o, e3) ∧ g d = some o ∧ wipeE e3 vs = env0))) →
    lcL vs tg t m ds env0 = (.ok (ds.filterMap g), env0)
  | [], _ => rfl
  | d :: ds, h => by
    obtain ⟨e1, h1, b, e2, h2, h3⟩ := h d List.mem_cons_self
    have ih := lcL_map env0 g ds fun d hd => h d (List.mem_cons_of_mem _ hd)
    have n2 : noX t e1 = (.ok b, e2) := noX_ok h2
    rcases h3 with ⟨rfl, hg, hw⟩ | ⟨rfl, o, e3, h4, hg, hw⟩
    · simp only [lcL, v_bnd, h1, n2, hw, ih, List.filterMap_cons, hg]
      simp [hw, ih]
    · have n4 : noX m e2 = (.ok o, e3) := noX_ok h4
      simp only [lcL, v_bnd, h1, n2, if_true, n4, hw, ih, v_ret, List.filterMap_cons, hg]
/-- .. with a state -/
theorem lcL_inv {vs : List Nat} {tg : Tg} {t : M Bool} {m : M O} (P : Env → Prop) (Q : O → Prop) : ∀ (ds : List D) (env : Env), P env →
    (∀ d ∈ ds, ∀ env, P env → ∃ e1 e2 o e3, bindT tg d env = (.ok .nx, e1) ∧ t e1 = (.ok true, e2) ∧ m e2 = (.ok o, e3) ∧ Q o ∧ P (wipeE e3 vs)) →
    ∃ os env', lcL vs tg t m ds env = (.ok os, env') ∧ P env' ∧ os.length = ds.length ∧ ∀ o ∈ os, Q o
  | [], env, p, _ => ⟨[], env, rfl, p, rfl, fun o h => absurd h (by simp)⟩
  | d :: ds, env, p, h => by
    obtain ⟨e1, e2, o, e3, h1, h2, h3, q, p2⟩ := h d List.mem_cons_self env p
    obtain ⟨os, env', h4, p3, hl, hq⟩ := lcL_inv P Q ds _ p2 fun d hd => h d (List.mem_cons_of_mem _ hd)
    refine ⟨o :: os, env', ?_, p3, by simp [hl], fun x hx => ?_⟩
    · simp only [lcL, v_bnd, h1, noX_ok h2, if_true, noX_ok h3, h4, v_ret]
    · rcases List.mem_cons.mp hx with rfl | hx
      · exact q
      · exact hq x hx
theorem v_lcM {vs : List Nat} {tg : Tg} {t : M Bool} {m : M O} {ms : M (List D)} {env e1 e2 e3 : Env} {ds : List D} {os : List O} (h1 : ms env = (.ok ds, e1)) (h2 : shVs vs e1 = (.ok (), e2)) (hl : ds.length ≤ lim) (h3 : lcL vs tg t m ds (wipeE e2 vs) = (.ok os, e3)) : lcM vs tg t m ms env = (.ok (.lst os), backE e2 e3 vs) := by
  simp only [lcM, v_bnd, h1, h2, hl, if_true, h3]
/-- a loop that keeps what is known -/
theorem loop_inv {tg : Tg} {b : M Fl} (P : List D → Env → Prop) : ∀ (ds : List D) (env : Env), P ds env →
    (∀ d ds env, P (d :: ds) env → ∃ e1, seqM (bindT tg d) b env = (.ok .nx, e1) ∧ P ds e1) → ∃ env', loopM tg b ds env = (.ok .nx, env') ∧ P [] env'
  | [], env, p, _ => ⟨env, rfl, p⟩
  | d :: ds, env, p, h => by
    obtain ⟨e1, h1, p1⟩ := h d ds env p
    obtain ⟨env', h2, p2⟩ := loop_inv P ds e1 p1 h
    exact ⟨env', by rw [v_loop1, h1]; exact h2, p2⟩
end Mp
end
section
namespace La
open PySem PySem.Spec PyProof.Rows L2 Mp
def top (i : Nat) : Stmt := PySem.Challenge.pw_eitherbarter_k21_fractions.main.body.getD i (.Pass ⟨0, 0, 0, 0⟩)
abbrev Wc (K : PySem.W.Frag) : Wd := ⟨K, fun _ => 0, fun _ => [], fun _ => 0⟩
abbrev J0 : Hp → Prop := fun _ => True
theorem wo0 {K : PySem.W.Frag} : WdOk (Wc K) J0 := ⟨fun _ _ _ _ => trivial⟩
def FUEL : Nat := 1000000
abbrev s0 : Sg := [108, 101, 102, 116]
theorem s0_eq : ("left" : Str) = toStr s0 := by decide +kernel
abbrev s1 : Sg := [99, 101, 108, 108, 115]
theorem s1_eq : ("cells" : Str) = toStr s1 := by decide +kernel
abbrev s2 : Sg := [116, 117, 114, 110]
theorem s2_eq : ("turn" : Str) = toStr s2 := by decide +kernel
abbrev s3 : Sg := [109, 105, 120, 101, 100]
theorem s3_eq : ("mixed" : Str) = toStr s3 := by decide +kernel
abbrev s4 : Sg := []
theorem s4_eq : ("" : Str) = toStr s4 := by decide +kernel
abbrev s5 : Sg := [65]
theorem s5_eq : ("A" : Str) = toStr s5 := by decide +kernel
abbrev s6 : Sg := [120]
theorem s6_eq : ("x" : Str) = toStr s6 := by decide +kernel
abbrev s7 : Sg := [49]
theorem s7_eq : ("1" : Str) = toStr s7 := by decide +kernel
structure GF (mg : Str → Option Value) : Prop where
  abs : mg "abs" = none
  bool : mg "bool" = none
  int : mg "int" = none
  isinstance : mg "isinstance" = none
  len : mg "len" = none
  list : mg "list" = none
  max : mg "max" = none
  range : mg "range" = none
  repr : mg "repr" = none
  tuple : mg "tuple" = none
  zip : mg "zip" = none
/-! ### is_integer -/
abbrev N_0 : List Str := ["value"]
def b_0 (FU : Nat) : M Fl := retM (own (andV (isiM ["int"] (getV 0)) (ofB (notM (tru (isiM ["bool"] (getV 0)))))))
theorem sc_0 : FnScope N_0 ["value"] (defScope (top 1)) := ⟨rfl, rfl, rfl, by decide +kernel, rfl, by decide +kernel, by decide +kernel⟩
theorem pb_0 {FU : Nat} {P : Program} {w : World} {K : PySem.W.Frag} {mg : Str → Option Value} {base : Heap} (g : GF mg)  {f : Addr} {cdv : Value} {A : Around} {outer : List PySem.Env} {s : Shared} {H : Hp} {E : XK} (hr : Room 0 (A.deeper (envOfC "is_integer" (defScope (top 1)) s.heap.objs.size f cdv))) (hg : A.guards = some []) :
    PSs (cxOf (L2.CX P w) P w K mg base N_0 "is_integer" (defScope (top 1)) f cdv A outer s H E) (defBody (top 1)) (tS (Wc K) J0 (fun cls d _ H => E cls d H) [] (b_0 FU)) := by
  have ok := ok_fn (c := Wc K) (J := J0) (P := P) (w := w) (mg := mg) (base := base) (outer := outer) (H := H) (E := E) wo0 rfl sc_0.nd hr hg
  have po := po_fn (P := P) (w := w) (K := K) (mg := mg) (base := base) (N := N_0) (qual := "is_integer") (scope := defScope (top 1)) (f := f) (cdv := cdv) (A := A) (outer := outer) (s := s) (H := H) (E := E) rfl
  exact pss_one' (sRet (pe_own (pe_andV (eIsi ⟨by rfl, by exact g.isinstance⟩ (nV ⟨by rfl, (by first | exact Or.inl rfl | exact Or.inr (Or.inl rfl) | exact Or.inr (Or.inr rfl)), by decide, by decide⟩) ⟨by rfl, by exact g.int, by decide +kernel, by decide, by decide⟩) (pe_one (pe_notV (eIsi ⟨by rfl, by exact g.isinstance⟩ (nV ⟨by rfl, (by first | exact Or.inl rfl | exact Or.inr (Or.inl rfl) | exact Or.inr (Or.inr rfl)), by decide, by decide⟩) ⟨by rfl, by exact g.bool, by decide +kernel, by decide, by decide⟩))))))
/-! ### common_divisor -/
abbrev N_1 : List Str := ["a", "b", "one", "other"]
def b_1 (FU : Nat) : M Fl := seqM (parM [2, 3] (consL (callM absF (consL (getV 0) nilL)) (consL (callM absF (consL (getV 1) nilL)) (nilL)))) (seqM (whileM FU (cmpM (cmpF .NotEq) (getV 3) (ret (.int 0))) (parM [2, 3] (consL (own (getV 3)) (consL (bin (binF .Mod) (getV 2) (getV 3)) (nilL))))) (retM (own (getV 2))))
theorem sc_1 : FnScope N_1 ["a", "b"] (defScope (top 3)) := ⟨rfl, rfl, rfl, by decide +kernel, rfl, by decide +kernel, by decide +kernel⟩
theorem pb_1 {FU : Nat} {P : Program} {w : World} {K : PySem.W.Frag} {mg : Str → Option Value} {base : Heap} (g : GF mg)  {f : Addr} {cdv : Value} {A : Around} {outer : List PySem.Env} {s : Shared} {H : Hp} {E : XK} (hr : Room 0 (A.deeper (envOfC "common_divisor" (defScope (top 3)) s.heap.objs.size f cdv))) (hg : A.guards = some []) :
    PSs (cxOf (L2.CX P w) P w K mg base N_1 "common_divisor" (defScope (top 3)) f cdv A outer s H E) (defBody (top 3)) (tS (Wc K) J0 (fun cls d _ H => E cls d H) [] (b_1 FU)) := by
  have ok := ok_fn (c := Wc K) (J := J0) (P := P) (w := w) (mg := mg) (base := base) (outer := outer) (H := H) (E := E) wo0 rfl sc_1.nd hr hg
  have po := po_fn (P := P) (w := w) (K := K) (mg := mg) (base := base) (N := N_1) (qual := "common_divisor") (scope := defScope (top 3)) (f := f) (cdv := cdv) (A := A) (outer := outer) (s := s) (H := H) (E := E) rfl
  exact pss_seq (sPar ok ⟨by rfl, (by first | exact Or.inl rfl | exact Or.inr rfl), (by first | exact Or.inl rfl | exact Or.inr rfl)⟩ ⟨by rfl, (by first | exact Or.inl rfl | exact Or.inr rfl), (by first | exact Or.inl rfl | exact Or.inr rfl)⟩ (aO (eAbs ok ⟨by rfl, by exact g.abs⟩ (nV ⟨by rfl, (by first | exact Or.inl rfl | exact Or.inr (Or.inl rfl) | exact Or.inr (Or.inr rfl)), by decide, by decide⟩)) (aO (eAbs ok ⟨by rfl, by exact g.abs⟩ (nV ⟨by rfl, (by first | exact Or.inl rfl | exact Or.inr (Or.inl rfl) | exact Or.inr (Or.inr rfl)), by decide, by decide⟩)) (pa_nilO)))) (pss_seq (sWhile FU po (eCmp ok (nV ⟨by rfl, (by first | exact Or.inl rfl | exact Or.inr (Or.inl rfl) | exact Or.inr (Or.inr rfl)), by decide, by decide⟩) (pe_cInt)) (pss_one' (sPar ok ⟨by rfl, (by first | exact Or.inl rfl | exact Or.inr rfl), (by first | exact Or.inl rfl | exact Or.inr rfl)⟩ ⟨by rfl, (by first | exact Or.inl rfl | exact Or.inr rfl), (by first | exact Or.inl rfl | exact Or.inr rfl)⟩ (aO (pe_own (nV ⟨by rfl, (by first | exact Or.inl rfl | exact Or.inr (Or.inl rfl) | exact Or.inr (Or.inr rfl)), by decide, by decide⟩)) (aO (eBin ok (nV ⟨by rfl, (by first | exact Or.inl rfl | exact Or.inr (Or.inl rfl) | exact Or.inr (Or.inr rfl)), by decide, by decide⟩) (nV ⟨by rfl, (by first | exact Or.inl rfl | exact Or.inr (Or.inl rfl) | exact Or.inr (Or.inr rfl)), by decide, by decide⟩)) (pa_nilO)))))) (pss_one' (sRet (pe_own (nV ⟨by rfl, (by first | exact Or.inl rfl | exact Or.inr (Or.inl rfl) | exact Or.inr (Or.inr rfl)), by decide, by decide⟩)))))
/-! ### lowest -/
abbrev N_2 : List Str := ["a", "b", "shared"]
def b_2 (FU : Nat) : M Fl := seqM (setM 2 (iteM (cmpM (cmpF .Gt) (getV 1) (ret (.int 0))) (callF N_1.length (b_1 FU) (oA (own (getV 0)) (oA (own (getV 1)) (nilA)))) (bin (binF .Sub) (ret (.int 0)) (shr (callF N_1.length (b_1 FU) (oA (own (getV 0)) (oA (own (getV 1)) (nilA)))))))) (retM (own (tupM (consL (shr (bin (binF .FloorDiv) (getV 0) (getV 2))) (consL (shr (bin (binF .FloorDiv) (getV 1) (getV 2))) (nilL))))))
theorem sc_2 : FnScope N_2 ["a", "b"] (defScope (top 4)) := ⟨rfl, rfl, rfl, by decide +kernel, rfl, by decide +kernel, by decide +kernel⟩
theorem pb_2 {FU : Nat} {P : Program} {w : World} {K : PySem.W.Frag} {mg : Str → Option Value} {base : Heap} (g : GF mg) (d_1 : DefG (Wc K) J0 P w K mg base 1 "common_divisor" N_1 ["a", "b"] [] (b_1 FU)) {f : Addr} {cdv : Value} {A : Around} {outer : List PySem.Env} {s : Shared} {H : Hp} {E : XK} (hr : Room 1 (A.deeper (envOfC "lowest" (defScope (top 4)) s.heap.objs.size f cdv))) (hg : A.guards = some []) :
    PSs (cxOf (L2.CX P w) P w K mg base N_2 "lowest" (defScope (top 4)) f cdv A outer s H E) (defBody (top 4)) (tS (Wc K) J0 (fun cls d _ H => E cls d H) [] (b_2 FU)) := by
  have ok := ok_fn (c := Wc K) (J := J0) (P := P) (w := w) (mg := mg) (base := base) (outer := outer) (H := H) (E := E) wo0 rfl sc_2.nd hr hg
  have po := po_fn (P := P) (w := w) (K := K) (mg := mg) (base := base) (N := N_2) (qual := "lowest") (scope := defScope (top 4)) (f := f) (cdv := cdv) (A := A) (outer := outer) (s := s) (H := H) (E := E) rfl
  exact pss_seq (sSet ok ⟨by rfl, (by first | exact Or.inl rfl | exact Or.inr rfl), (by first | exact Or.inl rfl | exact Or.inr rfl)⟩ (pe_iteM (eCmp ok (nV ⟨by rfl, (by first | exact Or.inl rfl | exact Or.inr (Or.inl rfl) | exact Or.inr (Or.inr rfl)), by decide, by decide⟩) (pe_cInt)) (eCall ok d_1 (by decide) (by rfl) (fit_o (fit_o (fit_nil))) (rO (pe_own (nV ⟨by rfl, (by first | exact Or.inl rfl | exact Or.inr (Or.inl rfl) | exact Or.inr (Or.inr rfl)), by decide, by decide⟩)) (rO (pe_own (nV ⟨by rfl, (by first | exact Or.inl rfl | exact Or.inr (Or.inl rfl) | exact Or.inr (Or.inr rfl)), by decide, by decide⟩)) (pa_nilA)))) (eBin ok (pe_cInt) (pe_shr (eCall ok d_1 (by decide) (by rfl) (fit_o (fit_o (fit_nil))) (rO (pe_own (nV ⟨by rfl, (by first | exact Or.inl rfl | exact Or.inr (Or.inl rfl) | exact Or.inr (Or.inr rfl)), by decide, by decide⟩)) (rO (pe_own (nV ⟨by rfl, (by first | exact Or.inl rfl | exact Or.inr (Or.inl rfl) | exact Or.inr (Or.inr rfl)), by decide, by decide⟩)) (pa_nilA)))))))) (pss_one' (sRet (pe_own (eTup ok (aD (pe_shr (eBin ok (nV ⟨by rfl, (by first | exact Or.inl rfl | exact Or.inr (Or.inl rfl) | exact Or.inr (Or.inr rfl)), by decide, by decide⟩) (nV ⟨by rfl, (by first | exact Or.inl rfl | exact Or.inr (Or.inl rfl) | exact Or.inr (Or.inr rfl)), by decide, by decide⟩))) (aD (pe_shr (eBin ok (nV ⟨by rfl, (by first | exact Or.inl rfl | exact Or.inr (Or.inl rfl) | exact Or.inr (Or.inr rfl)), by decide, by decide⟩) (nV ⟨by rfl, (by first | exact Or.inl rfl | exact Or.inr (Or.inl rfl) | exact Or.inr (Or.inr rfl)), by decide, by decide⟩))) (pa_nilD)))))))
/-! ### added -/
abbrev N_3 : List Str := ["one", "other"]
def b_3 (FU : Nat) : M Fl := retM (callF N_2.length (b_2 FU) (oA (own (shr (bin (binF .Add) (shr (bin (binF .Mult) (vixM 0 (ret (.int 0))) (vixM 1 (ret (.int 1))))) (shr (bin (binF .Mult) (vixM 1 (ret (.int 0))) (vixM 0 (ret (.int 1)))))))) (oA (own (shr (bin (binF .Mult) (vixM 0 (ret (.int 1))) (vixM 1 (ret (.int 1)))))) (nilA))))
theorem sc_3 : FnScope N_3 ["one", "other"] (defScope (top 5)) := ⟨rfl, rfl, rfl, by decide +kernel, rfl, by decide +kernel, by decide +kernel⟩
theorem pb_3 {FU : Nat} {P : Program} {w : World} {K : PySem.W.Frag} {mg : Str → Option Value} {base : Heap} (g : GF mg) (d_2 : DefG (Wc K) J0 P w K mg base 2 "lowest" N_2 ["a", "b"] [] (b_2 FU)) {f : Addr} {cdv : Value} {A : Around} {outer : List PySem.Env} {s : Shared} {H : Hp} {E : XK} (hr : Room 2 (A.deeper (envOfC "added" (defScope (top 5)) s.heap.objs.size f cdv))) (hg : A.guards = some []) :
    PSs (cxOf (L2.CX P w) P w K mg base N_3 "added" (defScope (top 5)) f cdv A outer s H E) (defBody (top 5)) (tS (Wc K) J0 (fun cls d _ H => E cls d H) [] (b_3 FU)) := by
  have ok := ok_fn (c := Wc K) (J := J0) (P := P) (w := w) (mg := mg) (base := base) (outer := outer) (H := H) (E := E) wo0 rfl sc_3.nd hr hg
  have po := po_fn (P := P) (w := w) (K := K) (mg := mg) (base := base) (N := N_3) (qual := "added") (scope := defScope (top 5)) (f := f) (cdv := cdv) (A := A) (outer := outer) (s := s) (H := H) (E := E) rfl
  exact pss_one' (sRet (eCall ok d_2 (by decide) (by rfl) (fit_o (fit_o (fit_nil))) (rO (pe_own (pe_shr (eBin ok (pe_shr (eBin ok (eVix ok ⟨by rfl, (by first | exact Or.inl rfl | exact Or.inr (Or.inl rfl) | exact Or.inr (Or.inr rfl)), by decide, by decide⟩ (pe_cInt)) (eVix ok ⟨by rfl, (by first | exact Or.inl rfl | exact Or.inr (Or.inl rfl) | exact Or.inr (Or.inr rfl)), by decide, by decide⟩ (pe_cInt)))) (pe_shr (eBin ok (eVix ok ⟨by rfl, (by first | exact Or.inl rfl | exact Or.inr (Or.inl rfl) | exact Or.inr (Or.inr rfl)), by decide, by decide⟩ (pe_cInt)) (eVix ok ⟨by rfl, (by first | exact Or.inl rfl | exact Or.inr (Or.inl rfl) | exact Or.inr (Or.inr rfl)), by decide, by decide⟩ (pe_cInt))))))) (rO (pe_own (pe_shr (eBin ok (eVix ok ⟨by rfl, (by first | exact Or.inl rfl | exact Or.inr (Or.inl rfl) | exact Or.inr (Or.inr rfl)), by decide, by decide⟩ (pe_cInt)) (eVix ok ⟨by rfl, (by first | exact Or.inl rfl | exact Or.inr (Or.inl rfl) | exact Or.inr (Or.inr rfl)), by decide, by decide⟩ (pe_cInt))))) (pa_nilA)))))
/-! ### times -/
abbrev N_4 : List Str := ["one", "other"]
def b_4 (FU : Nat) : M Fl := retM (callF N_2.length (b_2 FU) (oA (own (shr (bin (binF .Mult) (vixM 0 (ret (.int 0))) (vixM 1 (ret (.int 0)))))) (oA (own (shr (bin (binF .Mult) (vixM 0 (ret (.int 1))) (vixM 1 (ret (.int 1)))))) (nilA))))
theorem sc_4 : FnScope N_4 ["one", "other"] (defScope (top 6)) := ⟨rfl, rfl, rfl, by decide +kernel, rfl, by decide +kernel, by decide +kernel⟩
theorem pb_4 {FU : Nat} {P : Program} {w : World} {K : PySem.W.Frag} {mg : Str → Option Value} {base : Heap} (g : GF mg) (d_2 : DefG (Wc K) J0 P w K mg base 2 "lowest" N_2 ["a", "b"] [] (b_2 FU)) {f : Addr} {cdv : Value} {A : Around} {outer : List PySem.Env} {s : Shared} {H : Hp} {E : XK} (hr : Room 2 (A.deeper (envOfC "times" (defScope (top 6)) s.heap.objs.size f cdv))) (hg : A.guards = some []) :
    PSs (cxOf (L2.CX P w) P w K mg base N_4 "times" (defScope (top 6)) f cdv A outer s H E) (defBody (top 6)) (tS (Wc K) J0 (fun cls d _ H => E cls d H) [] (b_4 FU)) := by
  have ok := ok_fn (c := Wc K) (J := J0) (P := P) (w := w) (mg := mg) (base := base) (outer := outer) (H := H) (E := E) wo0 rfl sc_4.nd hr hg
  have po := po_fn (P := P) (w := w) (K := K) (mg := mg) (base := base) (N := N_4) (qual := "times") (scope := defScope (top 6)) (f := f) (cdv := cdv) (A := A) (outer := outer) (s := s) (H := H) (E := E) rfl
  exact pss_one' (sRet (eCall ok d_2 (by decide) (by rfl) (fit_o (fit_o (fit_nil))) (rO (pe_own (pe_shr (eBin ok (eVix ok ⟨by rfl, (by first | exact Or.inl rfl | exact Or.inr (Or.inl rfl) | exact Or.inr (Or.inr rfl)), by decide, by decide⟩ (pe_cInt)) (eVix ok ⟨by rfl, (by first | exact Or.inl rfl | exact Or.inr (Or.inl rfl) | exact Or.inr (Or.inr rfl)), by decide, by decide⟩ (pe_cInt))))) (rO (pe_own (pe_shr (eBin ok (eVix ok ⟨by rfl, (by first | exact Or.inl rfl | exact Or.inr (Or.inl rfl) | exact Or.inr (Or.inr rfl)), by decide, by decide⟩ (pe_cInt)) (eVix ok ⟨by rfl, (by first | exact Or.inl rfl | exact Or.inr (Or.inl rfl) | exact Or.inr (Or.inr rfl)), by decide, by decide⟩ (pe_cInt))))) (pa_nilA)))))
/-! ### is_fraction -/
abbrev N_5 : List Str := ["value"]
def b_5 (FU : Nat) : M Fl := seqM (ifM (orM (notM (tru (isiM ["tuple"] (getV 0)))) (orM (cmpM (cmpF .NotEq) (scal1 lenS (lookV 0)) (ret (.int 2))) (orM (notM (tru (shr (callF N_0.length (b_0 FU) (oA (own (vixM 0 (ret (.int 0)))) (nilA)))))) (notM (tru (shr (callF N_0.length (b_0 FU) (oA (own (vixM 0 (ret (.int 1)))) (nilA))))))))) (retM (own (ret (.bl false)))) (skipM)) (retM (own (andV (ofB (cmpM (cmpF .GtE) (vixM 0 (ret (.int 1))) (ret (.int 1)))) (ofB (cmpM (cmpF .Eq) (shr (callF N_1.length (b_1 FU) (oA (own (vixM 0 (ret (.int 0)))) (oA (own (vixM 0 (ret (.int 1)))) (nilA))))) (ret (.int 1)))))))
theorem sc_5 : FnScope N_5 ["value"] (defScope (top 7)) := ⟨rfl, rfl, rfl, by decide +kernel, rfl, by decide +kernel, by decide +kernel⟩
theorem pb_5 {FU : Nat} {P : Program} {w : World} {K : PySem.W.Frag} {mg : Str → Option Value} {base : Heap} (g : GF mg) (d_0 : DefG (Wc K) J0 P w K mg base 1 "is_integer" N_0 ["value"] [] (b_0 FU)) (d_1 : DefG (Wc K) J0 P w K mg base 1 "common_divisor" N_1 ["a", "b"] [] (b_1 FU)) {f : Addr} {cdv : Value} {A : Around} {outer : List PySem.Env} {s : Shared} {H : Hp} {E : XK} (hr : Room 1 (A.deeper (envOfC "is_fraction" (defScope (top 7)) s.heap.objs.size f cdv))) (hg : A.guards = some []) :
    PSs (cxOf (L2.CX P w) P w K mg base N_5 "is_fraction" (defScope (top 7)) f cdv A outer s H E) (defBody (top 7)) (tS (Wc K) J0 (fun cls d _ H => E cls d H) [] (b_5 FU)) := by
  have ok := ok_fn (c := Wc K) (J := J0) (P := P) (w := w) (mg := mg) (base := base) (outer := outer) (H := H) (E := E) wo0 rfl sc_5.nd hr hg
  have po := po_fn (P := P) (w := w) (K := K) (mg := mg) (base := base) (N := N_5) (qual := "is_fraction") (scope := defScope (top 7)) (f := f) (cdv := cdv) (A := A) (outer := outer) (s := s) (H := H) (E := E) rfl
  exact pss_seq (ps_ifM ((pw_orM (pt_notM (eTru (eIsi ⟨by rfl, by exact g.isinstance⟩ (nV ⟨by rfl, (by first | exact Or.inl rfl | exact Or.inr (Or.inl rfl) | exact Or.inr (Or.inr rfl)), by decide, by decide⟩) ⟨by rfl, by exact g.tuple, by decide +kernel, by decide, by decide⟩))) (pw_orM (eCmp ok (eVlen ok ⟨by rfl, by exact g.len⟩ (nL ⟨by rfl, (by first | exact Or.inl rfl | exact Or.inr (Or.inl rfl) | exact Or.inr (Or.inr rfl)), by decide, by decide⟩)) (pe_cInt)) (pw_orM (pt_notM (eTru (pe_shr (eCall ok d_0 (by decide) (by rfl) (fit_o (fit_nil)) (rO (pe_own (eVix ok ⟨by rfl, (by first | exact Or.inl rfl | exact Or.inr (Or.inl rfl) | exact Or.inr (Or.inr rfl)), by decide, by decide⟩ (pe_cInt))) (pa_nilA)))))) (pw_or1 (pt_notM (eTru (pe_shr (eCall ok d_0 (by decide) (by rfl) (fit_o (fit_nil)) (rO (pe_own (eVix ok ⟨by rfl, (by first | exact Or.inl rfl | exact Or.inr (Or.inl rfl) | exact Or.inr (Or.inr rfl)), by decide, by decide⟩ (pe_cInt))) (pa_nilA)))))))))).pt) (pss_one' (sRet (pe_own (pe_cBl)))) (pss_skip)) (pss_one' (sRet (pe_own (pe_andV (eCmpV ok (eVix ok ⟨by rfl, (by first | exact Or.inl rfl | exact Or.inr (Or.inl rfl) | exact Or.inr (Or.inr rfl)), by decide, by decide⟩ (pe_cInt)) (pe_cInt)) (pe_one (eCmpV ok (pe_shr (eCall ok d_1 (by decide) (by rfl) (fit_o (fit_o (fit_nil))) (rO (pe_own (eVix ok ⟨by rfl, (by first | exact Or.inl rfl | exact Or.inr (Or.inl rfl) | exact Or.inr (Or.inr rfl)), by decide, by decide⟩ (pe_cInt))) (rO (pe_own (eVix ok ⟨by rfl, (by first | exact Or.inl rfl | exact Or.inr (Or.inl rfl) | exact Or.inr (Or.inr rfl)), by decide, by decide⟩ (pe_cInt))) (pa_nilA))))) (pe_cInt)))))))
/-! ### row_sum -/
abbrev N_6 : List Str := ["row", "fractions", "found", "number", "fraction"]
def b_6 (FU : Nat) : M Fl := seqM (setM 2 (own (tupM (consL (ret (.int 0)) (consL (ret (.int 1)) (nilL)))))) (seqM (forM (.tp [3, 4]) (zipM (consL (getV 0) (consL (getV 1) (nilL)))) (setM 2 (callF N_3.length (b_3 FU) (oA (own (getV 2)) (oA (own (shr (callF N_4.length (b_4 FU) (oA (own (tupM (consL (getV 3) (consL (ret (.int 1)) (nilL))))) (oA (own (getV 4)) (nilA)))))) (nilA)))))) (retM (own (getV 2))))
theorem sc_6 : FnScope N_6 ["row", "fractions"] (defScope (top 8)) := ⟨rfl, rfl, rfl, by decide +kernel, rfl, by decide +kernel, by decide +kernel⟩
theorem pb_6 {FU : Nat} {P : Program} {w : World} {K : PySem.W.Frag} {mg : Str → Option Value} {base : Heap} (g : GF mg) (d_3 : DefG (Wc K) J0 P w K mg base 3 "added" N_3 ["one", "other"] [] (b_3 FU)) (d_4 : DefG (Wc K) J0 P w K mg base 3 "times" N_4 ["one", "other"] [] (b_4 FU)) {f : Addr} {cdv : Value} {A : Around} {outer : List PySem.Env} {s : Shared} {H : Hp} {E : XK} (hr : Room 3 (A.deeper (envOfC "row_sum" (defScope (top 8)) s.heap.objs.size f cdv))) (hg : A.guards = some []) :
    PSs (cxOf (L2.CX P w) P w K mg base N_6 "row_sum" (defScope (top 8)) f cdv A outer s H E) (defBody (top 8)) (tS (Wc K) J0 (fun cls d _ H => E cls d H) [] (b_6 FU)) := by
  have ok := ok_fn (c := Wc K) (J := J0) (P := P) (w := w) (mg := mg) (base := base) (outer := outer) (H := H) (E := E) wo0 rfl sc_6.nd hr hg
  have po := po_fn (P := P) (w := w) (K := K) (mg := mg) (base := base) (N := N_6) (qual := "row_sum") (scope := defScope (top 8)) (f := f) (cdv := cdv) (A := A) (outer := outer) (s := s) (H := H) (E := E) rfl
  exact pss_seq (sSet ok ⟨by rfl, (by first | exact Or.inl rfl | exact Or.inr rfl), (by first | exact Or.inl rfl | exact Or.inr rfl)⟩ (pe_own (eTup ok (aD (pe_cInt) (aD (pe_cInt) (pa_nilD)))))) (pss_seq (sFor ok po (wZip ok ⟨by rfl, by exact g.zip⟩ (aD (nV ⟨by rfl, (by first | exact Or.inl rfl | exact Or.inr (Or.inl rfl) | exact Or.inr (Or.inr rfl)), by decide, by decide⟩) (aD (nV ⟨by rfl, (by first | exact Or.inl rfl | exact Or.inr (Or.inl rfl) | exact Or.inr (Or.inr rfl)), by decide, by decide⟩) (pa_nilD)))) (gTp ok (gsN ok ⟨by rfl, (by first | exact Or.inl rfl | exact Or.inr rfl), (by first | exact Or.inl rfl | exact Or.inr rfl)⟩ (gsN ok ⟨by rfl, (by first | exact Or.inl rfl | exact Or.inr rfl), (by first | exact Or.inl rfl | exact Or.inr rfl)⟩ (pgs_nil)))) (pss_one' (sSet ok ⟨by rfl, (by first | exact Or.inl rfl | exact Or.inr rfl), (by first | exact Or.inl rfl | exact Or.inr rfl)⟩ (eCall ok d_3 (by decide) (by rfl) (fit_o (fit_o (fit_nil))) (rO (pe_own (nV ⟨by rfl, (by first | exact Or.inl rfl | exact Or.inr (Or.inl rfl) | exact Or.inr (Or.inr rfl)), by decide, by decide⟩)) (rO (pe_own (pe_shr (eCall ok d_4 (by decide) (by rfl) (fit_o (fit_o (fit_nil))) (rO (pe_own (eTup ok (aD (nV ⟨by rfl, (by first | exact Or.inl rfl | exact Or.inr (Or.inl rfl) | exact Or.inr (Or.inr rfl)), by decide, by decide⟩) (aD (pe_cInt) (pa_nilD))))) (rO (pe_own (nV ⟨by rfl, (by first | exact Or.inl rfl | exact Or.inr (Or.inl rfl) | exact Or.inr (Or.inr rfl)), by decide, by decide⟩)) (pa_nilA)))))) (pa_nilA))))))) (pss_one' (sRet (pe_own (nV ⟨by rfl, (by first | exact Or.inl rfl | exact Or.inr (Or.inl rfl) | exact Or.inr (Or.inr rfl)), by decide, by decide⟩)))))
/-! ### _law_pick -/
abbrev N_7 : List Str := ["_law_source_here", "_law_many", "_law_left", "_law_mixed"]
def b_7 (FU : Nat) : M Fl := seqM (whileM FU (andM (cmpM (cmpF .Gt) (getV 1) (ret (.int 1))) (andM (cmpM (cmpF .Lt) (vixM 0 (ret (.str s0))) (ret (.int 2))) (cmpM (cmpF .Gt) (scal1 lenS (vvxM 0 (ret (.str s1)))) (ret (.int 0))))) (setKM 0 (ret (.str s0)) (mutK "list" 0 (ret (.str s1)) popF nilL))) (seqM (setM 2 (own (vixM 0 (ret (.str s0))))) (seqM (ifM (orM (cmpM (cmpF .Lt) (getV 1) (ret (.int 2))) (cmpM (cmpF .Gt) (getV 2) (ret (.int 1)))) (seqM (setKM 0 (ret (.str s0)) (bin (binF .FloorDiv) (getV 2) (shr (callM max2F (consL (ret (.int 1)) (consL (getV 1) nilL)))))) (retM (bin (binF .Mod) (shr (callM intF (consL (getV 2) nilL))) (shr (callM max2F (consL (ret (.int 1)) (consL (getV 1) nilL))))))) (skipM)) (seqM (setKM 0 (ret (.str s2)) (bin (binF .Add) (vixM 0 (ret (.str s2))) (ret (.int 1)))) (seqM (setM 3 (bin (binF .Mod) (shr (callM intF (consL (shr (bin (binF .Add) (vixM 0 (ret (.str s3))) (shr (bin (binF .Mult) (vixM 0 (ret (.str s2))) (ret (.int 104729)))))) nilL))) (ret (.int 998244353)))) (seqM (setM 3 (bin (binF .Mod) (shr (callM intF (consL (shr (bin (binF .Add) (shr (bin (binF .Mult) (getV 3) (getV 3))) (shr (bin (binF .Mult) (vixM 0 (ret (.str s2))) (ret (.int 17)))))) nilL))) (ret (.int 2147483647)))) (retM (bin (binF .Mod) (shr (callM intF (consL (shr (bin (binF .FloorDiv) (getV 3) (ret (.int 16)))) nilL))) (getV 1))))))))
theorem sc_7 : FnScope N_7 ["_law_source_here", "_law_many"] (defScope (top 10)) := ⟨rfl, rfl, rfl, by decide +kernel, rfl, by decide +kernel, by decide +kernel⟩
theorem pb_7 {FU : Nat} {P : Program} {w : World} {K : PySem.W.Frag} {mg : Str → Option Value} {base : Heap} (g : GF mg)  {f : Addr} {cdv : Value} {A : Around} {outer : List PySem.Env} {s : Shared} {H : Hp} {E : XK} (hr : Room 0 (A.deeper (envOfC "_law_pick" (defScope (top 10)) s.heap.objs.size f cdv))) (hg : A.guards = some []) :
    PSs (cxOf (L2.CX P w) P w K mg base N_7 "_law_pick" (defScope (top 10)) f cdv A outer s H E) (defBody (top 10)) (tS (Wc K) J0 (fun cls d _ H => E cls d H) [0] (b_7 FU)) := by
  have ok := ok_fn (c := Wc K) (J := J0) (P := P) (w := w) (mg := mg) (base := base) (outer := outer) (H := H) (E := E) wo0 rfl sc_7.nd hr hg
  have po := po_fn (P := P) (w := w) (K := K) (mg := mg) (base := base) (N := N_7) (qual := "_law_pick") (scope := defScope (top 10)) (f := f) (cdv := cdv) (A := A) (outer := outer) (s := s) (H := H) (E := E) rfl
  exact pss_seq (sWhile FU po ((pw_andM (eCmp ok (nV ⟨by rfl, (by first | exact Or.inl rfl | exact Or.inr (Or.inl rfl) | exact Or.inr (Or.inr rfl)), by decide, by decide⟩) (pe_cInt)) (pw_andM (eCmp ok (eVix ok ⟨by rfl, (by first | exact Or.inl rfl | exact Or.inr (Or.inl rfl) | exact Or.inr (Or.inr rfl)), by decide, by decide⟩ (pe_cStr s0_eq)) (pe_cInt)) (pw_and1 (eCmp ok (eVlen ok ⟨by rfl, by exact g.len⟩ (eVvx ok ⟨by rfl, (by first | exact Or.inl rfl | exact Or.inr (Or.inl rfl) | exact Or.inr (Or.inr rfl)), by decide, by decide⟩ (pe_cStr s1_eq))) (pe_cInt))))).pt) (pss_one' (sSetK ok ⟨by rfl, (by first | exact Or.inl rfl | exact Or.inr (Or.inl rfl) | exact Or.inr (Or.inr rfl)), by decide, by decide⟩ (pe_cStr s0_eq) (ePop ok ⟨by rfl, (by first | exact Or.inl rfl | exact Or.inr (Or.inl rfl) | exact Or.inr (Or.inr rfl)), by decide, by decide⟩ (pe_cStr s1_eq))))) (pss_seq (sSet ok ⟨by rfl, (by first | exact Or.inl rfl | exact Or.inr rfl), (by first | exact Or.inl rfl | exact Or.inr rfl)⟩ (pe_own (eVix ok ⟨by rfl, (by first | exact Or.inl rfl | exact Or.inr (Or.inl rfl) | exact Or.inr (Or.inr rfl)), by decide, by decide⟩ (pe_cStr s0_eq)))) (pss_seq (ps_ifM ((pw_orM (eCmp ok (nV ⟨by rfl, (by first | exact Or.inl rfl | exact Or.inr (Or.inl rfl) | exact Or.inr (Or.inr rfl)), by decide, by decide⟩) (pe_cInt)) (pw_or1 (eCmp ok (nV ⟨by rfl, (by first | exact Or.inl rfl | exact Or.inr (Or.inl rfl) | exact Or.inr (Or.inr rfl)), by decide, by decide⟩) (pe_cInt)))).pt) (pss_seq (sSetK ok ⟨by rfl, (by first | exact Or.inl rfl | exact Or.inr (Or.inl rfl) | exact Or.inr (Or.inr rfl)), by decide, by decide⟩ (pe_cStr s0_eq) (eBin ok (nV ⟨by rfl, (by first | exact Or.inl rfl | exact Or.inr (Or.inl rfl) | exact Or.inr (Or.inr rfl)), by decide, by decide⟩) (pe_shr (eMax ok ⟨by rfl, by exact g.max⟩ (pe_cInt) (nV ⟨by rfl, (by first | exact Or.inl rfl | exact Or.inr (Or.inl rfl) | exact Or.inr (Or.inr rfl)), by decide, by decide⟩))))) (pss_one' (sRet (eBin ok (pe_shr (eInt ok ⟨by rfl, by exact g.int⟩ (nV ⟨by rfl, (by first | exact Or.inl rfl | exact Or.inr (Or.inl rfl) | exact Or.inr (Or.inr rfl)), by decide, by decide⟩))) (pe_shr (eMax ok ⟨by rfl, by exact g.max⟩ (pe_cInt) (nV ⟨by rfl, (by first | exact Or.inl rfl | exact Or.inr (Or.inl rfl) | exact Or.inr (Or.inr rfl)), by decide, by decide⟩))))))) (pss_skip)) (pss_seq (sSetK ok ⟨by rfl, (by first | exact Or.inl rfl | exact Or.inr (Or.inl rfl) | exact Or.inr (Or.inr rfl)), by decide, by decide⟩ (pe_cStr s2_eq) (eBin ok (eVix ok ⟨by rfl, (by first | exact Or.inl rfl | exact Or.inr (Or.inl rfl) | exact Or.inr (Or.inr rfl)), by decide, by decide⟩ (pe_cStr s2_eq)) (pe_cInt))) (pss_seq (sSet ok ⟨by rfl, (by first | exact Or.inl rfl | exact Or.inr rfl), (by first | exact Or.inl rfl | exact Or.inr rfl)⟩ (eBin ok (pe_shr (eInt ok ⟨by rfl, by exact g.int⟩ (pe_shr (eBin ok (eVix ok ⟨by rfl, (by first | exact Or.inl rfl | exact Or.inr (Or.inl rfl) | exact Or.inr (Or.inr rfl)), by decide, by decide⟩ (pe_cStr s3_eq)) (pe_shr (eBin ok (eVix ok ⟨by rfl, (by first | exact Or.inl rfl | exact Or.inr (Or.inl rfl) | exact Or.inr (Or.inr rfl)), by decide, by decide⟩ (pe_cStr s2_eq)) (pe_cInt))))))) (pe_cInt))) (pss_seq (sSet ok ⟨by rfl, (by first | exact Or.inl rfl | exact Or.inr rfl), (by first | exact Or.inl rfl | exact Or.inr rfl)⟩ (eBin ok (pe_shr (eInt ok ⟨by rfl, by exact g.int⟩ (pe_shr (eBin ok (pe_shr (eBin ok (nV ⟨by rfl, (by first | exact Or.inl rfl | exact Or.inr (Or.inl rfl) | exact Or.inr (Or.inr rfl)), by decide, by decide⟩) (nV ⟨by rfl, (by first | exact Or.inl rfl | exact Or.inr (Or.inl rfl) | exact Or.inr (Or.inr rfl)), by decide, by decide⟩))) (pe_shr (eBin ok (eVix ok ⟨by rfl, (by first | exact Or.inl rfl | exact Or.inr (Or.inl rfl) | exact Or.inr (Or.inr rfl)), by decide, by decide⟩ (pe_cStr s2_eq)) (pe_cInt))))))) (pe_cInt))) (pss_one' (sRet (eBin ok (pe_shr (eInt ok ⟨by rfl, by exact g.int⟩ (pe_shr (eBin ok (nV ⟨by rfl, (by first | exact Or.inl rfl | exact Or.inr (Or.inl rfl) | exact Or.inr (Or.inr rfl)), by decide, by decide⟩) (pe_cInt))))) (nV ⟨by rfl, (by first | exact Or.inl rfl | exact Or.inr (Or.inl rfl) | exact Or.inr (Or.inr rfl)), by decide, by decide⟩)))))))))
/-! ### _law_of -/
abbrev N_8 : List Str := ["_law_source_here", "_law_some"]
def b_8 (FU : Nat) : M Fl := retM (own (vixM 1 (shr (callF N_7.length (b_7 FU) (bA 0 (oA (own (scal1 lenS (lookV 1))) (nilA)))))))
theorem sc_8 : FnScope N_8 ["_law_source_here", "_law_some"] (defScope (top 11)) := ⟨rfl, rfl, rfl, by decide +kernel, rfl, by decide +kernel, by decide +kernel⟩
theorem pb_8 {FU : Nat} {P : Program} {w : World} {K : PySem.W.Frag} {mg : Str → Option Value} {base : Heap} (g : GF mg) (d_7 : DefG (Wc K) J0 P w K mg base 1 "_law_pick" N_7 ["_law_source_here", "_law_many"] [0] (b_7 FU)) {f : Addr} {cdv : Value} {A : Around} {outer : List PySem.Env} {s : Shared} {H : Hp} {E : XK} (hr : Room 1 (A.deeper (envOfC "_law_of" (defScope (top 11)) s.heap.objs.size f cdv))) (hg : A.guards = some []) :
    PSs (cxOf (L2.CX P w) P w K mg base N_8 "_law_of" (defScope (top 11)) f cdv A outer s H E) (defBody (top 11)) (tS (Wc K) J0 (fun cls d _ H => E cls d H) [0] (b_8 FU)) := by
  have ok := ok_fn (c := Wc K) (J := J0) (P := P) (w := w) (mg := mg) (base := base) (outer := outer) (H := H) (E := E) wo0 rfl sc_8.nd hr hg
  have po := po_fn (P := P) (w := w) (K := K) (mg := mg) (base := base) (N := N_8) (qual := "_law_of") (scope := defScope (top 11)) (f := f) (cdv := cdv) (A := A) (outer := outer) (s := s) (H := H) (E := E) rfl
  exact pss_one' (sRet (pe_own (eVix ok ⟨by rfl, (by first | exact Or.inl rfl | exact Or.inr (Or.inl rfl) | exact Or.inr (Or.inr rfl)), by decide, by decide⟩ (pe_shr (eCall ok d_7 (by decide) (by rfl) (fit_b (by decide) (fit_o (fit_nil))) (rB ⟨by rfl, (by first | exact Or.inl rfl | exact Or.inr (Or.inl rfl) | exact Or.inr (Or.inr rfl)), by decide, by decide⟩ (rO (pe_own (eVlen ok ⟨by rfl, by exact g.len⟩ (nL ⟨by rfl, (by first | exact Or.inl rfl | exact Or.inr (Or.inl rfl) | exact Or.inr (Or.inr rfl)), by decide, by decide⟩))) (pa_nilA))))))))
/-! ### _law_lowest -/
abbrev N_9 : List Str := ["_law_a", "_law_b", "_law_one", "_law_other"]
def b_9 (FU : Nat) : M Fl := seqM (parM [2, 3] (consL (callM absF (consL (getV 0) nilL)) (consL (callM absF (consL (getV 1) nilL)) (nilL)))) (seqM (whileM FU (cmpM (cmpF .Gt) (getV 3) (ret (.int 0))) (parM [2, 3] (consL (own (getV 3)) (consL (bin (binF .Mod) (shr (callM intF (consL (getV 2) nilL))) (getV 3)) (nilL))))) (seqM (setM 2 (iteM (cmpM (cmpF .Gt) (getV 1) (ret (.int 0))) (own (getV 2)) (bin (binF .Sub) (ret (.int 0)) (getV 2)))) (retM (own (tupM (consL (shr (bin (binF .FloorDiv) (getV 0) (getV 2))) (consL (shr (bin (binF .FloorDiv) (getV 1) (getV 2))) (nilL))))))))
theorem sc_9 : FnScope N_9 ["_law_a", "_law_b"] (defScope (top 12)) := ⟨rfl, rfl, rfl, by decide +kernel, rfl, by decide +kernel, by decide +kernel⟩
theorem pb_9 {FU : Nat} {P : Program} {w : World} {K : PySem.W.Frag} {mg : Str → Option Value} {base : Heap} (g : GF mg)  {f : Addr} {cdv : Value} {A : Around} {outer : List PySem.Env} {s : Shared} {H : Hp} {E : XK} (hr : Room 0 (A.deeper (envOfC "_law_lowest" (defScope (top 12)) s.heap.objs.size f cdv))) (hg : A.guards = some []) :
    PSs (cxOf (L2.CX P w) P w K mg base N_9 "_law_lowest" (defScope (top 12)) f cdv A outer s H E) (defBody (top 12)) (tS (Wc K) J0 (fun cls d _ H => E cls d H) [] (b_9 FU)) := by
  have ok := ok_fn (c := Wc K) (J := J0) (P := P) (w := w) (mg := mg) (base := base) (outer := outer) (H := H) (E := E) wo0 rfl sc_9.nd hr hg
  have po := po_fn (P := P) (w := w) (K := K) (mg := mg) (base := base) (N := N_9) (qual := "_law_lowest") (scope := defScope (top 12)) (f := f) (cdv := cdv) (A := A) (outer := outer) (s := s) (H := H) (E := E) rfl
  exact pss_seq (sPar ok ⟨by rfl, (by first | exact Or.inl rfl | exact Or.inr rfl), (by first | exact Or.inl rfl | exact Or.inr rfl)⟩ ⟨by rfl, (by first | exact Or.inl rfl | exact Or.inr rfl), (by first | exact Or.inl rfl | exact Or.inr rfl)⟩ (aO (eAbs ok ⟨by rfl, by exact g.abs⟩ (nV ⟨by rfl, (by first | exact Or.inl rfl | exact Or.inr (Or.inl rfl) | exact Or.inr (Or.inr rfl)), by decide, by decide⟩)) (aO (eAbs ok ⟨by rfl, by exact g.abs⟩ (nV ⟨by rfl, (by first | exact Or.inl rfl | exact Or.inr (Or.inl rfl) | exact Or.inr (Or.inr rfl)), by decide, by decide⟩)) (pa_nilO)))) (pss_seq (sWhile FU po (eCmp ok (nV ⟨by rfl, (by first | exact Or.inl rfl | exact Or.inr (Or.inl rfl) | exact Or.inr (Or.inr rfl)), by decide, by decide⟩) (pe_cInt)) (pss_one' (sPar ok ⟨by rfl, (by first | exact Or.inl rfl | exact Or.inr rfl), (by first | exact Or.inl rfl | exact Or.inr rfl)⟩ ⟨by rfl, (by first | exact Or.inl rfl | exact Or.inr rfl), (by first | exact Or.inl rfl | exact Or.inr rfl)⟩ (aO (pe_own (nV ⟨by rfl, (by first | exact Or.inl rfl | exact Or.inr (Or.inl rfl) | exact Or.inr (Or.inr rfl)), by decide, by decide⟩)) (aO (eBin ok (pe_shr (eInt ok ⟨by rfl, by exact g.int⟩ (nV ⟨by rfl, (by first | exact Or.inl rfl | exact Or.inr (Or.inl rfl) | exact Or.inr (Or.inr rfl)), by decide, by decide⟩))) (nV ⟨by rfl, (by first | exact Or.inl rfl | exact Or.inr (Or.inl rfl) | exact Or.inr (Or.inr rfl)), by decide, by decide⟩)) (pa_nilO)))))) (pss_seq (sSet ok ⟨by rfl, (by first | exact Or.inl rfl | exact Or.inr rfl), (by first | exact Or.inl rfl | exact Or.inr rfl)⟩ (pe_iteM (eCmp ok (nV ⟨by rfl, (by first | exact Or.inl rfl | exact Or.inr (Or.inl rfl) | exact Or.inr (Or.inr rfl)), by decide, by decide⟩) (pe_cInt)) (pe_own (nV ⟨by rfl, (by first | exact Or.inl rfl | exact Or.inr (Or.inl rfl) | exact Or.inr (Or.inr rfl)), by decide, by decide⟩)) (eBin ok (pe_cInt) (nV ⟨by rfl, (by first | exact Or.inl rfl | exact Or.inr (Or.inl rfl) | exact Or.inr (Or.inr rfl)), by decide, by decide⟩)))) (pss_one' (sRet (pe_own (eTup ok (aD (pe_shr (eBin ok (nV ⟨by rfl, (by first | exact Or.inl rfl | exact Or.inr (Or.inl rfl) | exact Or.inr (Or.inr rfl)), by decide, by decide⟩) (nV ⟨by rfl, (by first | exact Or.inl rfl | exact Or.inr (Or.inl rfl) | exact Or.inr (Or.inr rfl)), by decide, by decide⟩))) (aD (pe_shr (eBin ok (nV ⟨by rfl, (by first | exact Or.inl rfl | exact Or.inr (Or.inl rfl) | exact Or.inr (Or.inr rfl)), by decide, by decide⟩) (nV ⟨by rfl, (by first | exact Or.inl rfl | exact Or.inr (Or.inl rfl) | exact Or.inr (Or.inr rfl)), by decide, by decide⟩))) (pa_nilD)))))))))
/-! ### _law_source -/
abbrev N_10 : List Str := ["_law_script", "_law_mixed", "_law_cell"]
def b_10 (FU : Nat) : M Fl := seqM (setM 1 (own (ret (.int 11)))) (seqM (forM (.nm 2) (valM (getV 0)) (setM 1 (bin (binF .Mod) (shr (callM intF (consL (shr (bin (binF .Add) (shr (bin (binF .Add) (shr (bin (binF .Mult) (getV 1) (ret (.int 69069)))) (shr (bin (binF .Mult) (getV 2) (ret (.int 31)))))) (ret (.int 5)))) nilL))) (ret (.int 2147483629))))) (retM (dispM [.s s1, .s s0, .s s3, .s s2] (consL (revM (shr (lcM ([("_law_cell", 2)].map (fun p => p.2)) (.nm 2) (ret true) (callM absF (consL (getV 2) nilL)) (valM (getV 0))))) (consL (own (ret (.int 1))) (consL (own (getV 1)) (consL (own (ret (.int 0))) (nilL))))))))
theorem sc_10 : FnScope N_10 ["_law_script"] (defScope (top 13)) := ⟨rfl, rfl, rfl, by decide +kernel, rfl, by decide +kernel, by decide +kernel⟩
theorem pb_10 {FU : Nat} {P : Program} {w : World} {K : PySem.W.Frag} {mg : Str → Option Value} {base : Heap} (g : GF mg)  {f : Addr} {cdv : Value} {A : Around} {outer : List PySem.Env} {s : Shared} {H : Hp} {E : XK} (hr : Room 0 (A.deeper (envOfC "_law_source" (defScope (top 13)) s.heap.objs.size f cdv))) (hg : A.guards = some []) :
    PSs (cxOf (L2.CX P w) P w K mg base N_10 "_law_source" (defScope (top 13)) f cdv A outer s H E) (defBody (top 13)) (tS (Wc K) J0 (fun cls d _ H => E cls d H) [] (b_10 FU)) := by
  have ok := ok_fn (c := Wc K) (J := J0) (P := P) (w := w) (mg := mg) (base := base) (outer := outer) (H := H) (E := E) wo0 rfl sc_10.nd hr hg
  have po := po_fn (P := P) (w := w) (K := K) (mg := mg) (base := base) (N := N_10) (qual := "_law_source") (scope := defScope (top 13)) (f := f) (cdv := cdv) (A := A) (outer := outer) (s := s) (H := H) (E := E) rfl
  exact pss_seq (sSet ok ⟨by rfl, (by first | exact Or.inl rfl | exact Or.inr rfl), (by first | exact Or.inl rfl | exact Or.inr rfl)⟩ (pe_own (pe_cInt))) (pss_seq (sFor ok po (wVal ok (nV ⟨by rfl, (by first | exact Or.inl rfl | exact Or.inr (Or.inl rfl) | exact Or.inr (Or.inr rfl)), by decide, by decide⟩)) (gNm ok ⟨by rfl, (by first | exact Or.inl rfl | exact Or.inr rfl), (by first | exact Or.inl rfl | exact Or.inr rfl)⟩) (pss_one' (sSet ok ⟨by rfl, (by first | exact Or.inl rfl | exact Or.inr rfl), (by first | exact Or.inl rfl | exact Or.inr rfl)⟩ (eBin ok (pe_shr (eInt ok ⟨by rfl, by exact g.int⟩ (pe_shr (eBin ok (pe_shr (eBin ok (pe_shr (eBin ok (nV ⟨by rfl, (by first | exact Or.inl rfl | exact Or.inr (Or.inl rfl) | exact Or.inr (Or.inr rfl)), by decide, by decide⟩) (pe_cInt))) (pe_shr (eBin ok (nV ⟨by rfl, (by first | exact Or.inl rfl | exact Or.inr (Or.inl rfl) | exact Or.inr (Or.inr rfl)), by decide, by decide⟩) (pe_cInt))))) (pe_cInt))))) (pe_cInt))))) (pss_one' (sRet (eDisp ok (pd_cons (kStr s1_eq) (eRev ok (pe_shr (eLc ok (own := [("_law_cell", 2)]) (wVal ok (nV ⟨by rfl, (by first | exact Or.inl rfl | exact Or.inr (Or.inl rfl) | exact Or.inr (Or.inr rfl)), by decide, by decide⟩)) (blkOk_by (by kernel_rfl)) (fun _ _ _ _ _ okb => gNm okb ⟨by rfl, (by first | exact Or.inl rfl | exact Or.inr rfl), (by first | exact Or.inl rfl | exact Or.inr rfl)⟩) (fun _ _ _ _ _ okb => pts_noM) (fun _ _ _ _ _ okb => eAbs okb ⟨by rfl, by exact g.abs⟩ (nV ⟨by rfl, (by first | exact Or.inl rfl | exact Or.inr (Or.inl rfl) | exact Or.inr (Or.inr rfl)), by decide, by decide⟩))))) (pd_cons (kStr s0_eq) (pe_own (pe_cInt)) (pd_cons (kStr s3_eq) (pe_own (nV ⟨by rfl, (by first | exact Or.inl rfl | exact Or.inr (Or.inl rfl) | exact Or.inr (Or.inr rfl)), by decide, by decide⟩)) (pd_cons (kStr s2_eq) (pe_own (pe_cInt)) (pd_nil)))))))))
/-! ### _law_row_sum -/
abbrev N_11 : List Str := ["_law_row", "_law_fractions", "_law_k", "_law_top", "_law_below"]
def b_11 (FU : Nat) : M Fl := seqM (asgM (.tp [3, 4]) (tupM (consL (ret (.int 0)) (consL (ret (.int 1)) (nilL))))) (seqM (forM (.nm 2) (rng1M (consL (scal1 lenS (lookV 0)) (nilL))) (asgM (.tp [3, 4]) (shr (callF N_9.length (b_9 FU) (oA (own (shr (bin (binF .Add) (shr (bin (binF .Mult) (getV 3) (ixM (vixM 1 (getV 2)) (ret (.int 1))))) (shr (bin (binF .Mult) (shr (bin (binF .Mult) (vixM 0 (getV 2)) (ixM (vixM 1 (getV 2)) (ret (.int 0))))) (getV 4)))))) (oA (own (shr (bin (binF .Mult) (getV 4) (ixM (vixM 1 (getV 2)) (ret (.int 1)))))) (nilA))))))) (retM (own (tupM (consL (getV 3) (consL (getV 4) (nilL)))))))
theorem sc_11 : FnScope N_11 ["_law_row", "_law_fractions"] (defScope (top 14)) := ⟨rfl, rfl, rfl, by decide +kernel, rfl, by decide +kernel, by decide +kernel⟩
theorem pb_11 {FU : Nat} {P : Program} {w : World} {K : PySem.W.Frag} {mg : Str → Option Value} {base : Heap} (g : GF mg) (d_9 : DefG (Wc K) J0 P w K mg base 1 "_law_lowest" N_9 ["_law_a", "_law_b"] [] (b_9 FU)) {f : Addr} {cdv : Value} {A : Around} {outer : List PySem.Env} {s : Shared} {H : Hp} {E : XK} (hr : Room 1 (A.deeper (envOfC "_law_row_sum" (defScope (top 14)) s.heap.objs.size f cdv))) (hg : A.guards = some []) :
    PSs (cxOf (L2.CX P w) P w K mg base N_11 "_law_row_sum" (defScope (top 14)) f cdv A outer s H E) (defBody (top 14)) (tS (Wc K) J0 (fun cls d _ H => E cls d H) [] (b_11 FU)) := by
  have ok := ok_fn (c := Wc K) (J := J0) (P := P) (w := w) (mg := mg) (base := base) (outer := outer) (H := H) (E := E) wo0 rfl sc_11.nd hr hg
  have po := po_fn (P := P) (w := w) (K := K) (mg := mg) (base := base) (N := N_11) (qual := "_law_row_sum") (scope := defScope (top 14)) (f := f) (cdv := cdv) (A := A) (outer := outer) (s := s) (H := H) (E := E) rfl
  exact pss_seq (sAsg ok (gTp ok (gsN ok ⟨by rfl, (by first | exact Or.inl rfl | exact Or.inr rfl), (by first | exact Or.inl rfl | exact Or.inr rfl)⟩ (gsN ok ⟨by rfl, (by first | exact Or.inl rfl | exact Or.inr rfl), (by first | exact Or.inl rfl | exact Or.inr rfl)⟩ (pgs_nil)))) (eTup ok (aD (pe_cInt) (aD (pe_cInt) (pa_nilD))))) (pss_seq (sFor ok po (wRng1 ⟨by rfl, by exact g.range⟩ (aD (eVlen ok ⟨by rfl, by exact g.len⟩ (nL ⟨by rfl, (by first | exact Or.inl rfl | exact Or.inr (Or.inl rfl) | exact Or.inr (Or.inr rfl)), by decide, by decide⟩)) (pa_nilD))) (gNm ok ⟨by rfl, (by first | exact Or.inl rfl | exact Or.inr rfl), (by first | exact Or.inl rfl | exact Or.inr rfl)⟩) (pss_one' (sAsg ok (gTp ok (gsN ok ⟨by rfl, (by first | exact Or.inl rfl | exact Or.inr rfl), (by first | exact Or.inl rfl | exact Or.inr rfl)⟩ (gsN ok ⟨by rfl, (by first | exact Or.inl rfl | exact Or.inr rfl), (by first | exact Or.inl rfl | exact Or.inr rfl)⟩ (pgs_nil)))) (pe_shr (eCall ok d_9 (by decide) (by rfl) (fit_o (fit_o (fit_nil))) (rO (pe_own (pe_shr (eBin ok (pe_shr (eBin ok (nV ⟨by rfl, (by first | exact Or.inl rfl | exact Or.inr (Or.inl rfl) | exact Or.inr (Or.inr rfl)), by decide, by decide⟩) (eIx ok (eVix ok ⟨by rfl, (by first | exact Or.inl rfl | exact Or.inr (Or.inl rfl) | exact Or.inr (Or.inr rfl)), by decide, by decide⟩ (nV ⟨by rfl, (by first | exact Or.inl rfl | exact Or.inr (Or.inl rfl) | exact Or.inr (Or.inr rfl)), by decide, by decide⟩)) (pe_cInt)))) (pe_shr (eBin ok (pe_shr (eBin ok (eVix ok ⟨by rfl, (by first | exact Or.inl rfl | exact Or.inr (Or.inl rfl) | exact Or.inr (Or.inr rfl)), by decide, by decide⟩ (nV ⟨by rfl, (by first | exact Or.inl rfl | exact Or.inr (Or.inl rfl) | exact Or.inr (Or.inr rfl)), by decide, by decide⟩)) (eIx ok (eVix ok ⟨by rfl, (by first | exact Or.inl rfl | exact Or.inr (Or.inl rfl) | exact Or.inr (Or.inr rfl)), by decide, by decide⟩ (nV ⟨by rfl, (by first | exact Or.inl rfl | exact Or.inr (Or.inl rfl) | exact Or.inr (Or.inr rfl)), by decide, by decide⟩)) (pe_cInt)))) (nV ⟨by rfl, (by first | exact Or.inl rfl | exact Or.inr (Or.inl rfl) | exact Or.inr (Or.inr rfl)), by decide, by decide⟩)))))) (rO (pe_own (pe_shr (eBin ok (nV ⟨by rfl, (by first | exact Or.inl rfl | exact Or.inr (Or.inl rfl) | exact Or.inr (Or.inr rfl)), by decide, by decide⟩) (eIx ok (eVix ok ⟨by rfl, (by first | exact Or.inl rfl | exact Or.inr (Or.inl rfl) | exact Or.inr (Or.inr rfl)), by decide, by decide⟩ (nV ⟨by rfl, (by first | exact Or.inl rfl | exact Or.inr (Or.inl rfl) | exact Or.inr (Or.inr rfl)), by decide, by decide⟩)) (pe_cInt))))) (pa_nilA)))))))) (pss_one' (sRet (pe_own (eTup ok (aD (nV ⟨by rfl, (by first | exact Or.inl rfl | exact Or.inr (Or.inl rfl) | exact Or.inr (Or.inr rfl)), by decide, by decide⟩) (aD (nV ⟨by rfl, (by first | exact Or.inl rfl | exact Or.inr (Or.inl rfl) | exact Or.inr (Or.inr rfl)), by decide, by decide⟩) (pa_nilD))))))))
/-! ### _law_odd -/
abbrev N_12 : List Str := ["_law_source_here", "_law_some"]
def b_12 (FU : Nat) : M Fl := seqM (setM 1 (lstM (consL (ret .non) (consL (ret (.bl true)) (consL (ret (.bl false)) (consL (negM (ret (.int 1))) (consL (ret (.int 7)) (consL (shr (bin (binF .Pow) (ret (.int 10)) (ret (.int 30)))) (consL (ret (.str s4)) (consL (ret (.str s5)) (consL (ret (.str s6)) (consL (tupM (nilL)) (consL (shr (lstM (nilL))) (consL (shr (ret (.dK [] []))) (consL (tupM (consL (ret .non) (nilL))) (consL (shr (lstM (consL (tupM (nilL)) (nilL)))) (consL (tupM (consL (ret (.int 0)) (nilL))) (consL (tupM (consL (ret (.int 0)) (consL (ret (.int 0)) (nilL)))) (consL (tupM (consL (ret (.str s6)) (consL (ret (.int 1)) (nilL)))) (nilL)))))))))))))))))))) (retM (callF N_8.length (b_8 FU) (bA 0 (oA (own (shr (bin (binF .Add) (getV 1) (shr (lstM (consL (shr (dispM [.i 0] (consL (own (ret (.int 1))) (nilL)))) (nilL))))))) (nilA)))))
theorem sc_12 : FnScope N_12 ["_law_source_here"] (defScope (top 15)) := ⟨rfl, rfl, rfl, by decide +kernel, rfl, by decide +kernel, by decide +kernel⟩
theorem pb_12 {FU : Nat} {P : Program} {w : World} {K : PySem.W.Frag} {mg : Str → Option Value} {base : Heap} (g : GF mg) (d_8 : DefG (Wc K) J0 P w K mg base 2 "_law_of" N_8 ["_law_source_here", "_law_some"] [0] (b_8 FU)) {f : Addr} {cdv : Value} {A : Around} {outer : List PySem.Env} {s : Shared} {H : Hp} {E : XK} (hr : Room 2 (A.deeper (envOfC "_law_odd" (defScope (top 15)) s.heap.objs.size f cdv))) (hg : A.guards = some []) :
    PSs (cxOf (L2.CX P w) P w K mg base N_12 "_law_odd" (defScope (top 15)) f cdv A outer s H E) (defBody (top 15)) (tS (Wc K) J0 (fun cls d _ H => E cls d H) [0] (b_12 FU)) := by
  have ok := ok_fn (c := Wc K) (J := J0) (P := P) (w := w) (mg := mg) (base := base) (outer := outer) (H := H) (E := E) wo0 rfl sc_12.nd hr hg
  have po := po_fn (P := P) (w := w) (K := K) (mg := mg) (base := base) (N := N_12) (qual := "_law_odd") (scope := defScope (top 15)) (f := f) (cdv := cdv) (A := A) (outer := outer) (s := s) (H := H) (E := E) rfl
  exact pss_seq (sSet ok ⟨by rfl, (by first | exact Or.inl rfl | exact Or.inr rfl), (by first | exact Or.inl rfl | exact Or.inr rfl)⟩ (eLst ok (aD (pe_cNon) (aD (pe_cBl) (aD (pe_cBl) (aD (eNeg (pe_cInt)) (aD (pe_cInt) (aD (pe_shr (eBin ok (pe_cInt) (pe_cInt))) (aD (pe_cStr s4_eq) (aD (pe_cStr s5_eq) (aD (pe_cStr s6_eq) (aD (eTup ok (pa_nilD)) (aD (pe_shr (eLst ok (pa_nilD))) (aD (pe_shr (eD0 ok)) (aD (eTup ok (aD (pe_cNon) (pa_nilD))) (aD (pe_shr (eLst ok (aD (eTup ok (pa_nilD)) (pa_nilD)))) (aD (eTup ok (aD (pe_cInt) (pa_nilD))) (aD (eTup ok (aD (pe_cInt) (aD (pe_cInt) (pa_nilD)))) (aD (eTup ok (aD (pe_cStr s6_eq) (aD (pe_cInt) (pa_nilD)))) (pa_nilD)))))))))))))))))))) (pss_one' (sRet (eCall ok d_8 (by decide) (by rfl) (fit_b (by decide) (fit_o (fit_nil))) (rB ⟨by rfl, (by first | exact Or.inl rfl | exact Or.inr (Or.inl rfl) | exact Or.inr (Or.inr rfl)), by decide, by decide⟩ (rO (pe_own (pe_shr (eBin ok (nV ⟨by rfl, (by first | exact Or.inl rfl | exact Or.inr (Or.inl rfl) | exact Or.inr (Or.inr rfl)), by decide, by decide⟩) (pe_shr (eLst ok (aD (pe_shr (eDisp ok (pd_cons (kInt) (pe_own (pe_cInt)) (pd_nil)))) (pa_nilD))))))) (pa_nilA))))))
/-! ### _law_is_fraction -/
abbrev N_13 : List Str := ["_law_value", "_law_one"]
def b_13 (FU : Nat) : M Fl := seqM (ifM (orM (notM (tru (isiM ["tuple"] (getV 0)))) (cmpM (cmpF .NotEq) (scal1 lenS (lookV 0)) (ret (.int 2)))) (retM (own (ret (.bl false)))) (skipM)) (seqM (ifM (cmpM (cmpF .NotEq) (shr (lcM ([("_law_one", 1)].map (fun p => p.2)) (.nm 1) (orM (tru (isiM ["bool"] (getV 1))) (notM (tru (isiM ["int"] (getV 1))))) (own (getV 1)) (valM (getV 0)))) (shr (lstM (nilL)))) (retM (own (ret (.bl false)))) (skipM)) (retM (own (andV (ofB (cmpM (cmpF .GtE) (vixM 0 (ret (.int 1))) (ret (.int 1)))) (ofB (cmpM (cmpF .Eq) (shr (callF N_9.length (b_9 FU) (oA (own (vixM 0 (ret (.int 0)))) (oA (own (vixM 0 (ret (.int 1)))) (nilA))))) (getV 0)))))))
theorem sc_13 : FnScope N_13 ["_law_value"] (defScope (top 16)) := ⟨rfl, rfl, rfl, by decide +kernel, rfl, by decide +kernel, by decide +kernel⟩
theorem pb_13 {FU : Nat} {P : Program} {w : World} {K : PySem.W.Frag} {mg : Str → Option Value} {base : Heap} (g : GF mg) (d_9 : DefG (Wc K) J0 P w K mg base 1 "_law_lowest" N_9 ["_law_a", "_law_b"] [] (b_9 FU)) {f : Addr} {cdv : Value} {A : Around} {outer : List PySem.Env} {s : Shared} {H : Hp} {E : XK} (hr : Room 1 (A.deeper (envOfC "_law_is_fraction" (defScope (top 16)) s.heap.objs.size f cdv))) (hg : A.guards = some []) :
    PSs (cxOf (L2.CX P w) P w K mg base N_13 "_law_is_fraction" (defScope (top 16)) f cdv A outer s H E) (defBody (top 16)) (tS (Wc K) J0 (fun cls d _ H => E cls d H) [] (b_13 FU)) := by
  have ok := ok_fn (c := Wc K) (J := J0) (P := P) (w := w) (mg := mg) (base := base) (outer := outer) (H := H) (E := E) wo0 rfl sc_13.nd hr hg
  have po := po_fn (P := P) (w := w) (K := K) (mg := mg) (base := base) (N := N_13) (qual := "_law_is_fraction") (scope := defScope (top 16)) (f := f) (cdv := cdv) (A := A) (outer := outer) (s := s) (H := H) (E := E) rfl
  exact pss_seq (ps_ifM ((pw_orM (pt_notM (eTru (eIsi ⟨by rfl, by exact g.isinstance⟩ (nV ⟨by rfl, (by first | exact Or.inl rfl | exact Or.inr (Or.inl rfl) | exact Or.inr (Or.inr rfl)), by decide, by decide⟩) ⟨by rfl, by exact g.tuple, by decide +kernel, by decide, by decide⟩))) (pw_or1 (eCmp ok (eVlen ok ⟨by rfl, by exact g.len⟩ (nL ⟨by rfl, (by first | exact Or.inl rfl | exact Or.inr (Or.inl rfl) | exact Or.inr (Or.inr rfl)), by decide, by decide⟩)) (pe_cInt)))).pt) (pss_one' (sRet (pe_own (pe_cBl)))) (pss_skip)) (pss_seq (ps_ifM (eCmp ok (pe_shr (eLc ok (own := [("_law_one", 1)]) (wVal ok (nV ⟨by rfl, (by first | exact Or.inl rfl | exact Or.inr (Or.inl rfl) | exact Or.inr (Or.inr rfl)), by decide, by decide⟩)) (blkOk_by (by kernel_rfl)) (fun _ _ _ _ _ okb => gNm okb ⟨by rfl, (by first | exact Or.inl rfl | exact Or.inr rfl), (by first | exact Or.inl rfl | exact Or.inr rfl)⟩) (fun _ _ _ _ _ okb => pts_oneM ((pw_orM (eTru (eIsi ⟨by rfl, by exact g.isinstance⟩ (nV ⟨by rfl, (by first | exact Or.inl rfl | exact Or.inr (Or.inl rfl) | exact Or.inr (Or.inr rfl)), by decide, by decide⟩) ⟨by rfl, by exact g.bool, by decide +kernel, by decide, by decide⟩)) (pw_or1 (pt_notM (eTru (eIsi ⟨by rfl, by exact g.isinstance⟩ (nV ⟨by rfl, (by first | exact Or.inl rfl | exact Or.inr (Or.inl rfl) | exact Or.inr (Or.inr rfl)), by decide, by decide⟩) ⟨by rfl, by exact g.int, by decide +kernel, by decide, by decide⟩))))).pt)) (fun _ _ _ _ _ okb => pe_own (nV ⟨by rfl, (by first | exact Or.inl rfl | exact Or.inr (Or.inl rfl) | exact Or.inr (Or.inr rfl)), by decide, by decide⟩)))) (pe_shr (eLst ok (pa_nilD)))) (pss_one' (sRet (pe_own (pe_cBl)))) (pss_skip)) (pss_one' (sRet (pe_own (pe_andV (eCmpV ok (eVix ok ⟨by rfl, (by first | exact Or.inl rfl | exact Or.inr (Or.inl rfl) | exact Or.inr (Or.inr rfl)), by decide, by decide⟩ (pe_cInt)) (pe_cInt)) (pe_one (eCmpV ok (pe_shr (eCall ok d_9 (by decide) (by rfl) (fit_o (fit_o (fit_nil))) (rO (pe_own (eVix ok ⟨by rfl, (by first | exact Or.inl rfl | exact Or.inr (Or.inl rfl) | exact Or.inr (Or.inr rfl)), by decide, by decide⟩ (pe_cInt))) (rO (pe_own (eVix ok ⟨by rfl, (by first | exact Or.inl rfl | exact Or.inr (Or.inl rfl) | exact Or.inr (Or.inr rfl)), by decide, by decide⟩ (pe_cInt))) (pa_nilA))))) (nV ⟨by rfl, (by first | exact Or.inl rfl | exact Or.inr (Or.inl rfl) | exact Or.inr (Or.inr rfl)), by decide, by decide⟩))))))))
/-! ### _law_number -/
abbrev N_14 : List Str := ["_law_source_here", "_law_great"]
def b_14 (FU : Nat) : M Fl := seqM (setM 1 (callF N_8.length (b_8 FU) (bA 0 (oA (own (shr (lstM (consL (ret (.int 1)) (consL (ret (.int 1)) (consL (ret (.int 1)) (consL (ret (.int 6)) (consL (ret (.int 35)) (consL (shr (bin (binF .Add) (shr (bin (binF .Pow) (ret (.int 10)) (ret (.int 18)))) (ret (.int 9)))) (consL (shr (bin (binF .Pow) (ret (.int 10)) (ret (.int 37)))) (nilL))))))))))) (nilA))))) (retM (bin (binF .Add) (shr (bin (binF .Mult) (shr (bin (binF .Sub) (shr (callF N_7.length (b_7 FU) (bA 0 (oA (own (ret (.int 13))) (nilA))))) (ret (.int 6)))) (getV 1))) (shr (callF N_8.length (b_8 FU) (bA 0 (oA (own (shr (lstM (consL (ret (.int 0)) (consL (ret (.int 0)) (consL (ret (.int 1)) (consL (negM (ret (.int 1))) (nilL)))))))) (nilA)))))))
theorem sc_14 : FnScope N_14 ["_law_source_here"] (defScope (top 17)) := ⟨rfl, rfl, rfl, by decide +kernel, rfl, by decide +kernel, by decide +kernel⟩
theorem pb_14 {FU : Nat} {P : Program} {w : World} {K : PySem.W.Frag} {mg : Str → Option Value} {base : Heap} (g : GF mg) (d_7 : DefG (Wc K) J0 P w K mg base 1 "_law_pick" N_7 ["_law_source_here", "_law_many"] [0] (b_7 FU)) (d_8 : DefG (Wc K) J0 P w K mg base 2 "_law_of" N_8 ["_law_source_here", "_law_some"] [0] (b_8 FU)) {f : Addr} {cdv : Value} {A : Around} {outer : List PySem.Env} {s : Shared} {H : Hp} {E : XK} (hr : Room 2 (A.deeper (envOfC "_law_number" (defScope (top 17)) s.heap.objs.size f cdv))) (hg : A.guards = some []) :
    PSs (cxOf (L2.CX P w) P w K mg base N_14 "_law_number" (defScope (top 17)) f cdv A outer s H E) (defBody (top 17)) (tS (Wc K) J0 (fun cls d _ H => E cls d H) [0] (b_14 FU)) := by
  have ok := ok_fn (c := Wc K) (J := J0) (P := P) (w := w) (mg := mg) (base := base) (outer := outer) (H := H) (E := E) wo0 rfl sc_14.nd hr hg
  have po := po_fn (P := P) (w := w) (K := K) (mg := mg) (base := base) (N := N_14) (qual := "_law_number") (scope := defScope (top 17)) (f := f) (cdv := cdv) (A := A) (outer := outer) (s := s) (H := H) (E := E) rfl
  exact pss_seq (sSet ok ⟨by rfl, (by first | exact Or.inl rfl | exact Or.inr rfl), (by first | exact Or.inl rfl | exact Or.inr rfl)⟩ (eCall ok d_8 (by decide) (by rfl) (fit_b (by decide) (fit_o (fit_nil))) (rB ⟨by rfl, (by first | exact Or.inl rfl | exact Or.inr (Or.inl rfl) | exact Or.inr (Or.inr rfl)), by decide, by decide⟩ (rO (pe_own (pe_shr (eLst ok (aD (pe_cInt) (aD (pe_cInt) (aD (pe_cInt) (aD (pe_cInt) (aD (pe_cInt) (aD (pe_shr (eBin ok (pe_shr (eBin ok (pe_cInt) (pe_cInt))) (pe_cInt))) (aD (pe_shr (eBin ok (pe_cInt) (pe_cInt))) (pa_nilD))))))))))) (pa_nilA))))) (pss_one' (sRet (eBin ok (pe_shr (eBin ok (pe_shr (eBin ok (pe_shr (eCall ok d_7 (by decide) (by rfl) (fit_b (by decide) (fit_o (fit_nil))) (rB ⟨by rfl, (by first | exact Or.inl rfl | exact Or.inr (Or.inl rfl) | exact Or.inr (Or.inr rfl)), by decide, by decide⟩ (rO (pe_own (pe_cInt)) (pa_nilA))))) (pe_cInt))) (nV ⟨by rfl, (by first | exact Or.inl rfl | exact Or.inr (Or.inl rfl) | exact Or.inr (Or.inr rfl)), by decide, by decide⟩))) (pe_shr (eCall ok d_8 (by decide) (by rfl) (fit_b (by decide) (fit_o (fit_nil))) (rB ⟨by rfl, (by first | exact Or.inl rfl | exact Or.inr (Or.inl rfl) | exact Or.inr (Or.inr rfl)), by decide, by decide⟩ (rO (pe_own (pe_shr (eLst ok (aD (pe_cInt) (aD (pe_cInt) (aD (pe_cInt) (aD (eNeg (pe_cInt)) (pa_nilD)))))))) (pa_nilA))))))))
/-! ### _law_drawn -/
abbrev N_15 : List Str := ["_law_source_here", "_law_below"]
def b_15 (FU : Nat) : M Fl := seqM (setM 1 (callF N_14.length (b_14 FU) (bA 0 (nilA)))) (retM (callF N_9.length (b_9 FU) (oA (own (shr (callF N_14.length (b_14 FU) (bA 0 (nilA))))) (oA (own (shr (iteM (cmpM (cmpF .NotEq) (getV 1) (ret (.int 0))) (own (getV 1)) (own (ret (.int 4)))))) (nilA)))))
theorem sc_15 : FnScope N_15 ["_law_source_here"] (defScope (top 18)) := ⟨rfl, rfl, rfl, by decide +kernel, rfl, by decide +kernel, by decide +kernel⟩
theorem pb_15 {FU : Nat} {P : Program} {w : World} {K : PySem.W.Frag} {mg : Str → Option Value} {base : Heap} (g : GF mg) (d_9 : DefG (Wc K) J0 P w K mg base 1 "_law_lowest" N_9 ["_law_a", "_law_b"] [] (b_9 FU)) (d_14 : DefG (Wc K) J0 P w K mg base 3 "_law_number" N_14 ["_law_source_here"] [0] (b_14 FU)) {f : Addr} {cdv : Value} {A : Around} {outer : List PySem.Env} {s : Shared} {H : Hp} {E : XK} (hr : Room 3 (A.deeper (envOfC "_law_drawn" (defScope (top 18)) s.heap.objs.size f cdv))) (hg : A.guards = some []) :
    PSs (cxOf (L2.CX P w) P w K mg base N_15 "_law_drawn" (defScope (top 18)) f cdv A outer s H E) (defBody (top 18)) (tS (Wc K) J0 (fun cls d _ H => E cls d H) [0] (b_15 FU)) := by
  have ok := ok_fn (c := Wc K) (J := J0) (P := P) (w := w) (mg := mg) (base := base) (outer := outer) (H := H) (E := E) wo0 rfl sc_15.nd hr hg
  have po := po_fn (P := P) (w := w) (K := K) (mg := mg) (base := base) (N := N_15) (qual := "_law_drawn") (scope := defScope (top 18)) (f := f) (cdv := cdv) (A := A) (outer := outer) (s := s) (H := H) (E := E) rfl
  exact pss_seq (sSet ok ⟨by rfl, (by first | exact Or.inl rfl | exact Or.inr rfl), (by first | exact Or.inl rfl | exact Or.inr rfl)⟩ (eCall ok d_14 (by decide) (by rfl) (fit_b (by decide) (fit_nil)) (rB ⟨by rfl, (by first | exact Or.inl rfl | exact Or.inr (Or.inl rfl) | exact Or.inr (Or.inr rfl)), by decide, by decide⟩ (pa_nilA)))) (pss_one' (sRet (eCall ok d_9 (by decide) (by rfl) (fit_o (fit_o (fit_nil))) (rO (pe_own (pe_shr (eCall ok d_14 (by decide) (by rfl) (fit_b (by decide) (fit_nil)) (rB ⟨by rfl, (by first | exact Or.inl rfl | exact Or.inr (Or.inl rfl) | exact Or.inr (Or.inr rfl)), by decide, by decide⟩ (pa_nilA))))) (rO (pe_own (pe_shr (pe_iteM (eCmp ok (nV ⟨by rfl, (by first | exact Or.inl rfl | exact Or.inr (Or.inl rfl) | exact Or.inr (Or.inr rfl)), by decide, by decide⟩) (pe_cInt)) (pe_own (nV ⟨by rfl, (by first | exact Or.inl rfl | exact Or.inr (Or.inl rfl) | exact Or.inr (Or.inr rfl)), by decide, by decide⟩)) (pe_own (pe_cInt))))) (pa_nilA))))))
/-! ### law -/
abbrev N_16 : List Str := ["_law_script", "_law_source_here", "_law_lap", "_law_b", "_law_many", "_law_odd_here", "_law_near", "_law_value", "_law_a", "_law_one", "_law_other", "_law_row", "_law_some", "_law_k"]
def b_16 (FU : Nat) : M Fl := seqM (setM 1 (callF N_10.length (b_10 FU) (oA (own (getV 0)) (nilA)))) (seqM (forM (.nm 2) (rng1M (consL (ret (.int 6)) (nilL))) (seqM (parM [8, 3] (consL (callF N_14.length (b_14 FU) (bA 1 (nilA))) (consL (callF N_14.length (b_14 FU) (bA 1 (nilA))) (nilL)))) (seqM (setM 3 (iteM (cmpM (cmpF .NotEq) (getV 3) (ret (.int 0))) (own (getV 3)) (own (negM (ret (.int 6)))))) (seqM (ifM (orM (cmpM (cmpF .NotEq) (shr (callF N_2.length (b_2 FU) (oA (own (getV 8)) (oA (own (getV 3)) (nilA))))) (shr (callF N_9.length (b_9 FU) (oA (own (getV 8)) (oA (own (getV 3)) (nilA)))))) (orM (notM (tru (shr (callF N_5.length (b_5 FU) (oA (own (shr (callF N_2.length (b_2 FU) (oA (own (getV 8)) (oA (own (getV 3)) (nilA)))))) (nilA)))))) (cmpM (cmpF .NotEq) (shr (callF N_2.length (b_2 FU) (oA (own (getV 3)) (oA (own (getV 3)) (nilA))))) (tupM (consL (ret (.int 1)) (consL (ret (.int 1)) (nilL))))))) (retM (own (ret (.bl false)))) (skipM)) (seqM (parM [9, 10] (consL (callF N_15.length (b_15 FU) (bA 1 (nilA))) (consL (callF N_15.length (b_15 FU) (bA 1 (nilA))) (nilL)))) (seqM (ifM (cmpM (cmpF .NotEq) (shr (callF N_3.length (b_3 FU) (oA (own (getV 9)) (oA (own (getV 10)) (nilA))))) (shr (callF N_9.length (b_9 FU) (oA (own (shr (bin (binF .Add) (shr (bin (binF .Mult) (vixM 9 (ret (.int 0))) (vixM 10 (ret (.int 1))))) (shr (bin (binF .Mult) (vixM 10 (ret (.int 0))) (vixM 9 (ret (.int 1)))))))) (oA (own (shr (bin (binF .Mult) (vixM 9 (ret (.int 1))) (vixM 10 (ret (.int 1)))))) (nilA)))))) (retM (own (ret (.bl false)))) (skipM)) (seqM (ifM (cmpM (cmpF .NotEq) (shr (callF N_4.length (b_4 FU) (oA (own (getV 9)) (oA (own (getV 10)) (nilA))))) (shr (callF N_9.length (b_9 FU) (oA (own (shr (bin (binF .Mult) (vixM 9 (ret (.int 0))) (vixM 10 (ret (.int 0)))))) (oA (own (shr (bin (binF .Mult) (vixM 9 (ret (.int 1))) (vixM 10 (ret (.int 1)))))) (nilA)))))) (retM (own (ret (.bl false)))) (skipM)) (seqM (setM 4 (callF N_7.length (b_7 FU) (bA 1 (oA (own (ret (.int 6))) (nilA))))) (seqM (parM [11, 12] (consL (callM tupleF (consL (shr (lcM ([("_law_k", 13)].map (fun p => p.2)) (.nm 13) (ret true) (callF N_14.length (b_14 FU) (bA 1 (nilA))) (rng1M (consL (getV 4) (nilL))))) nilL)) (consL (lcM ([("_law_k", 13)].map (fun p => p.2)) (.nm 13) (ret true) (callF N_15.length (b_15 FU) (bA 1 (nilA))) (rng1M (consL (getV 4) (nilL)))) (nilL)))) (seqM (ifM (orM (cmpM (cmpF .NotEq) (shr (callF N_6.length (b_6 FU) (oA (own (getV 11)) (oA (own (getV 12)) (nilA))))) (shr (callF N_11.length (b_11 FU) (oA (own (getV 11)) (oA (own (getV 12)) (nilA)))))) (cmpM (cmpF .NotEq) (shr (callF N_6.length (b_6 FU) (oA (own (shr (callM listF (consL (getV 11) nilL)))) (oA (own (shr (callM tupleF (consL (getV 12) nilL)))) (nilA))))) (shr (callF N_11.length (b_11 FU) (oA (own (getV 11)) (oA (own (getV 12)) (nilA))))))) (retM (own (ret (.bl false)))) (skipM)) (seqM (setM 5 (callF N_12.length (b_12 FU) (bA 1 (nilA)))) (seqM (setM 6 (lstM (consL (getV 9) (consL (shr (callM listF (consL (getV 9) nilL))) (consL (shr (bin (binF .Add) (getV 9) (tupM (consL (ret (.int 1)) (nilL))))) (consL (shr (sliceM (getV 9) (noE) (someE (ret (.int 1))))) (consL (tupM (consL (shr (bin (binF .Mult) (vixM 9 (ret (.int 0))) (ret (.int 2)))) (consL (shr (bin (binF .Mult) (vixM 9 (ret (.int 1))) (ret (.int 2)))) (nilL)))) (consL (tupM (consL (vixM 9 (ret (.int 0))) (consL (shr (bin (binF .Sub) (ret (.int 0)) (vixM 9 (ret (.int 1))))) (nilL)))) (consL (tupM (consL (getV 5) (consL (ret (.int 1)) (nilL)))) (consL (tupM (consL (ret (.int 1)) (consL (getV 5) (nilL)))) (consL (getV 5) (consL (tupM (consL (ret (.bl true)) (consL (ret (.int 1)) (nilL)))) (consL (tupM (consL (ret (.int 0)) (consL (ret (.int 2)) (nilL)))) (nilL)))))))))))))) (forM (.nm 7) (valM (shr (bin (binF .Add) (getV 6) (shr (lstM (consL (tupM (consL (ret (.int 0)) (consL (ret (.int 1)) (nilL)))) (consL (tupM (consL (ret (.int 1)) (consL (ret (.int 0)) (nilL)))) (consL (tupM (consL (ret (.int 0)) (consL (ret (.int 0)) (nilL)))) (consL (tupM (consL (ret (.int 1)) (consL (ret (.bl true)) (nilL)))) (consL (tupM (consL (getV 9) (consL (ret (.int 1)) (nilL)))) (consL (ret .non) (consL (tupM (consL (ret (.str s7)) (consL (ret (.int 1)) (nilL)))) (consL (tupM (consL (negM (ret (.int 3))) (consL (ret (.int 2)) (nilL)))) (consL (tupM (consL (shr (bin (binF .Pow) (ret (.int 10)) (ret (.int 30)))) (consL (shr (bin (binF .Pow) (ret (.int 10)) (ret (.int 30)))) (nilL)))) (nilL))))))))))))))) (ifM (cmpM (cmpF .NotEq) (shr (callM reprF (consL (shr (callF N_5.length (b_5 FU) (oA (own (getV 7)) (nilA)))) nilL))) (shr (callM reprF (consL (shr (callF N_13.length (b_13 FU) (oA (own (getV 7)) (nilA)))) nilL)))) (retM (own (ret (.bl false)))) (skipM))))))))))))))) (retM (own (ofB (cmpM (cmpF .Eq) (shr (lstM (consL (shr (callF N_2.length (b_2 FU) (oA (own (ret (.int 6))) (oA (own (negM (ret (.int 4)))) (nilA))))) (consL (shr (callF N_2.length (b_2 FU) (oA (own (ret (.int 0))) (oA (own (negM (ret (.int 5)))) (nilA))))) (consL (shr (callF N_3.length (b_3 FU) (oA (own (tupM (consL (ret (.int 1)) (consL (ret (.int 2)) (nilL))))) (oA (own (tupM (consL (negM (ret (.int 1))) (consL (ret (.int 2)) (nilL))))) (nilA))))) (consL (shr (callF N_4.length (b_4 FU) (oA (own (tupM (consL (ret (.int 2)) (consL (ret (.int 3)) (nilL))))) (oA (own (tupM (consL (ret (.int 0)) (consL (ret (.int 1)) (nilL))))) (nilA))))) (consL (shr (callF N_6.length (b_6 FU) (oA (own (tupM (nilL))) (oA (own (tupM (nilL))) (nilA))))) (nilL)))))))) (shr (lstM (consL (tupM (consL (negM (ret (.int 3))) (consL (ret (.int 2)) (nilL)))) (consL (tupM (consL (ret (.int 0)) (consL (ret (.int 1)) (nilL)))) (consL (tupM (consL (ret (.int 0)) (consL (ret (.int 1)) (nilL)))) (consL (tupM (consL (ret (.int 0)) (consL (ret (.int 1)) (nilL)))) (consL (tupM (consL (ret (.int 0)) (consL (ret (.int 1)) (nilL)))) (nilL)))))))))))))
theorem sc_16 : FnScope N_16 ["_law_script"] (defScope (top 19)) := ⟨rfl, rfl, rfl, by decide +kernel, rfl, by decide +kernel, by decide +kernel⟩
theorem pb_16 {FU : Nat} {P : Program} {w : World} {K : PySem.W.Frag} {mg : Str → Option Value} {base : Heap} (g : GF mg) (d_2 : DefG (Wc K) J0 P w K mg base 2 "lowest" N_2 ["a", "b"] [] (b_2 FU)) (d_3 : DefG (Wc K) J0 P w K mg base 3 "added" N_3 ["one", "other"] [] (b_3 FU)) (d_4 : DefG (Wc K) J0 P w K mg base 3 "times" N_4 ["one", "other"] [] (b_4 FU)) (d_5 : DefG (Wc K) J0 P w K mg base 2 "is_fraction" N_5 ["value"] [] (b_5 FU)) (d_6 : DefG (Wc K) J0 P w K mg base 4 "row_sum" N_6 ["row", "fractions"] [] (b_6 FU)) (d_7 : DefG (Wc K) J0 P w K mg base 1 "_law_pick" N_7 ["_law_source_here", "_law_many"] [0] (b_7 FU)) (d_9 : DefG (Wc K) J0 P w K mg base 1 "_law_lowest" N_9 ["_law_a", "_law_b"] [] (b_9 FU)) (d_10 : DefG (Wc K) J0 P w K mg base 1 "_law_source" N_10 ["_law_script"] [] (b_10 FU)) (d_11 : DefG (Wc K) J0 P w K mg base 2 "_law_row_sum" N_11 ["_law_row", "_law_fractions"] [] (b_11 FU)) (d_12 : DefG (Wc K) J0 P w K mg base 3 "_law_odd" N_12 ["_law_source_here"] [0] (b_12 FU)) (d_13 : DefG (Wc K) J0 P w K mg base 2 "_law_is_fraction" N_13 ["_law_value"] [] (b_13 FU)) (d_14 : DefG (Wc K) J0 P w K mg base 3 "_law_number" N_14 ["_law_source_here"] [0] (b_14 FU)) (d_15 : DefG (Wc K) J0 P w K mg base 4 "_law_drawn" N_15 ["_law_source_here"] [0] (b_15 FU)) {f : Addr} {cdv : Value} {A : Around} {outer : List PySem.Env} {s : Shared} {H : Hp} {E : XK} (hr : Room 4 (A.deeper (envOfC "law" (defScope (top 19)) s.heap.objs.size f cdv))) (hg : A.guards = some []) :
    PSs (cxOf (L2.CX P w) P w K mg base N_16 "law" (defScope (top 19)) f cdv A outer s H E) (defBody (top 19)) (tS (Wc K) J0 (fun cls d _ H => E cls d H) [] (b_16 FU)) := by
  have ok := ok_fn (c := Wc K) (J := J0) (P := P) (w := w) (mg := mg) (base := base) (outer := outer) (H := H) (E := E) wo0 rfl sc_16.nd hr hg
  have po := po_fn (P := P) (w := w) (K := K) (mg := mg) (base := base) (N := N_16) (qual := "law") (scope := defScope (top 19)) (f := f) (cdv := cdv) (A := A) (outer := outer) (s := s) (H := H) (E := E) rfl
  exact pss_seq (sSet ok ⟨by rfl, (by first | exact Or.inl rfl | exact Or.inr rfl), (by first | exact Or.inl rfl | exact Or.inr rfl)⟩ (eCall ok d_10 (by decide) (by rfl) (fit_o (fit_nil)) (rO (pe_own (nV ⟨by rfl, (by first | exact Or.inl rfl | exact Or.inr (Or.inl rfl) | exact Or.inr (Or.inr rfl)), by decide, by decide⟩)) (pa_nilA)))) (pss_seq (sFor ok po (wRng1 ⟨by rfl, by exact g.range⟩ (aD (pe_cInt) (pa_nilD))) (gNm ok ⟨by rfl, (by first | exact Or.inl rfl | exact Or.inr rfl), (by first | exact Or.inl rfl | exact Or.inr rfl)⟩) (pss_seq (sPar ok ⟨by rfl, (by first | exact Or.inl rfl | exact Or.inr rfl), (by first | exact Or.inl rfl | exact Or.inr rfl)⟩ ⟨by rfl, (by first | exact Or.inl rfl | exact Or.inr rfl), (by first | exact Or.inl rfl | exact Or.inr rfl)⟩ (aO (eCall ok d_14 (by decide) (by rfl) (fit_b (by decide) (fit_nil)) (rB ⟨by rfl, (by first | exact Or.inl rfl | exact Or.inr (Or.inl rfl) | exact Or.inr (Or.inr rfl)), by decide, by decide⟩ (pa_nilA))) (aO (eCall ok d_14 (by decide) (by rfl) (fit_b (by decide) (fit_nil)) (rB ⟨by rfl, (by first | exact Or.inl rfl | exact Or.inr (Or.inl rfl) | exact Or.inr (Or.inr rfl)), by decide, by decide⟩ (pa_nilA))) (pa_nilO)))) (pss_seq (sSet ok ⟨by rfl, (by first | exact Or.inl rfl | exact Or.inr rfl), (by first | exact Or.inl rfl | exact Or.inr rfl)⟩ (pe_iteM (eCmp ok (nV ⟨by rfl, (by first | exact Or.inl rfl | exact Or.inr (Or.inl rfl) | exact Or.inr (Or.inr rfl)), by decide, by decide⟩) (pe_cInt)) (pe_own (nV ⟨by rfl, (by first | exact Or.inl rfl | exact Or.inr (Or.inl rfl) | exact Or.inr (Or.inr rfl)), by decide, by decide⟩)) (pe_own (eNeg (pe_cInt))))) (pss_seq (ps_ifM ((pw_orM (eCmp ok (pe_shr (eCall ok d_2 (by decide) (by rfl) (fit_o (fit_o (fit_nil))) (rO (pe_own (nV ⟨by rfl, (by first | exact Or.inl rfl | exact Or.inr (Or.inl rfl) | exact Or.inr (Or.inr rfl)), by decide, by decide⟩)) (rO (pe_own (nV ⟨by rfl, (by first | exact Or.inl rfl | exact Or.inr (Or.inl rfl) | exact Or.inr (Or.inr rfl)), by decide, by decide⟩)) (pa_nilA))))) (pe_shr (eCall ok d_9 (by decide) (by rfl) (fit_o (fit_o (fit_nil))) (rO (pe_own (nV ⟨by rfl, (by first | exact Or.inl rfl | exact Or.inr (Or.inl rfl) | exact Or.inr (Or.inr rfl)), by decide, by decide⟩)) (rO (pe_own (nV ⟨by rfl, (by first | exact Or.inl rfl | exact Or.inr (Or.inl rfl) | exact Or.inr (Or.inr rfl)), by decide, by decide⟩)) (pa_nilA)))))) (pw_orM (pt_notM (eTru (pe_shr (eCall ok d_5 (by decide) (by rfl) (fit_o (fit_nil)) (rO (pe_own (pe_shr (eCall ok d_2 (by decide) (by rfl) (fit_o (fit_o (fit_nil))) (rO (pe_own (nV ⟨by rfl, (by first | exact Or.inl rfl | exact Or.inr (Or.inl rfl) | exact Or.inr (Or.inr rfl)), by decide, by decide⟩)) (rO (pe_own (nV ⟨by rfl, (by first | exact Or.inl rfl | exact Or.inr (Or.inl rfl) | exact Or.inr (Or.inr rfl)), by decide, by decide⟩)) (pa_nilA)))))) (pa_nilA)))))) (pw_or1 (eCmp ok (pe_shr (eCall ok d_2 (by decide) (by rfl) (fit_o (fit_o (fit_nil))) (rO (pe_own (nV ⟨by rfl, (by first | exact Or.inl rfl | exact Or.inr (Or.inl rfl) | exact Or.inr (Or.inr rfl)), by decide, by decide⟩)) (rO (pe_own (nV ⟨by rfl, (by first | exact Or.inl rfl | exact Or.inr (Or.inl rfl) | exact Or.inr (Or.inr rfl)), by decide, by decide⟩)) (pa_nilA))))) (eTup ok (aD (pe_cInt) (aD (pe_cInt) (pa_nilD)))))))).pt) (pss_one' (sRet (pe_own (pe_cBl)))) (pss_skip)) (pss_seq (sPar ok ⟨by rfl, (by first | exact Or.inl rfl | exact Or.inr rfl), (by first | exact Or.inl rfl | exact Or.inr rfl)⟩ ⟨by rfl, (by first | exact Or.inl rfl | exact Or.inr rfl), (by first | exact Or.inl rfl | exact Or.inr rfl)⟩ (aO (eCall ok d_15 (by decide) (by rfl) (fit_b (by decide) (fit_nil)) (rB ⟨by rfl, (by first | exact Or.inl rfl | exact Or.inr (Or.inl rfl) | exact Or.inr (Or.inr rfl)), by decide, by decide⟩ (pa_nilA))) (aO (eCall ok d_15 (by decide) (by rfl) (fit_b (by decide) (fit_nil)) (rB ⟨by rfl, (by first | exact Or.inl rfl | exact Or.inr (Or.inl rfl) | exact Or.inr (Or.inr rfl)), by decide, by decide⟩ (pa_nilA))) (pa_nilO)))) (pss_seq (ps_ifM (eCmp ok (pe_shr (eCall ok d_3 (by decide) (by rfl) (fit_o (fit_o (fit_nil))) (rO (pe_own (nV ⟨by rfl, (by first | exact Or.inl rfl | exact Or.inr (Or.inl rfl) | exact Or.inr (Or.inr rfl)), by decide, by decide⟩)) (rO (pe_own (nV ⟨by rfl, (by first | exact Or.inl rfl | exact Or.inr (Or.inl rfl) | exact Or.inr (Or.inr rfl)), by decide, by decide⟩)) (pa_nilA))))) (pe_shr (eCall ok d_9 (by decide) (by rfl) (fit_o (fit_o (fit_nil))) (rO (pe_own (pe_shr (eBin ok (pe_shr (eBin ok (eVix ok ⟨by rfl, (by first | exact Or.inl rfl | exact Or.inr (Or.inl rfl) | exact Or.inr (Or.inr rfl)), by decide, by decide⟩ (pe_cInt)) (eVix ok ⟨by rfl, (by first | exact Or.inl rfl | exact Or.inr (Or.inl rfl) | exact Or.inr (Or.inr rfl)), by decide, by decide⟩ (pe_cInt)))) (pe_shr (eBin ok (eVix ok ⟨by rfl, (by first | exact Or.inl rfl | exact Or.inr (Or.inl rfl) | exact Or.inr (Or.inr rfl)), by decide, by decide⟩ (pe_cInt)) (eVix ok ⟨by rfl, (by first | exact Or.inl rfl | exact Or.inr (Or.inl rfl) | exact Or.inr (Or.inr rfl)), by decide, by decide⟩ (pe_cInt))))))) (rO (pe_own (pe_shr (eBin ok (eVix ok ⟨by rfl, (by first | exact Or.inl rfl | exact Or.inr (Or.inl rfl) | exact Or.inr (Or.inr rfl)), by decide, by decide⟩ (pe_cInt)) (eVix ok ⟨by rfl, (by first | exact Or.inl rfl | exact Or.inr (Or.inl rfl) | exact Or.inr (Or.inr rfl)), by decide, by decide⟩ (pe_cInt))))) (pa_nilA)))))) (pss_one' (sRet (pe_own (pe_cBl)))) (pss_skip)) (pss_seq (ps_ifM (eCmp ok (pe_shr (eCall ok d_4 (by decide) (by rfl) (fit_o (fit_o (fit_nil))) (rO (pe_own (nV ⟨by rfl, (by first | exact Or.inl rfl | exact Or.inr (Or.inl rfl) | exact Or.inr (Or.inr rfl)), by decide, by decide⟩)) (rO (pe_own (nV ⟨by rfl, (by first | exact Or.inl rfl | exact Or.inr (Or.inl rfl) | exact Or.inr (Or.inr rfl)), by decide, by decide⟩)) (pa_nilA))))) (pe_shr (eCall ok d_9 (by decide) (by rfl) (fit_o (fit_o (fit_nil))) (rO (pe_own (pe_shr (eBin ok (eVix ok ⟨by rfl, (by first | exact Or.inl rfl | exact Or.inr (Or.inl rfl) | exact Or.inr (Or.inr rfl)), by decide, by decide⟩ (pe_cInt)) (eVix ok ⟨by rfl, (by first | exact Or.inl rfl | exact Or.inr (Or.inl rfl) | exact Or.inr (Or.inr rfl)), by decide, by decide⟩ (pe_cInt))))) (rO (pe_own (pe_shr (eBin ok (eVix ok ⟨by rfl, (by first | exact Or.inl rfl | exact Or.inr (Or.inl rfl) | exact Or.inr (Or.inr rfl)), by decide, by decide⟩ (pe_cInt)) (eVix ok ⟨by rfl, (by first | exact Or.inl rfl | exact Or.inr (Or.inl rfl) | exact Or.inr (Or.inr rfl)), by decide, by decide⟩ (pe_cInt))))) (pa_nilA)))))) (pss_one' (sRet (pe_own (pe_cBl)))) (pss_skip)) (pss_seq (sSet ok ⟨by rfl, (by first | exact Or.inl rfl | exact Or.inr rfl), (by first | exact Or.inl rfl | exact Or.inr rfl)⟩ (eCall ok d_7 (by decide) (by rfl) (fit_b (by decide) (fit_o (fit_nil))) (rB ⟨by rfl, (by first | exact Or.inl rfl | exact Or.inr (Or.inl rfl) | exact Or.inr (Or.inr rfl)), by decide, by decide⟩ (rO (pe_own (pe_cInt)) (pa_nilA))))) (pss_seq (sPar ok ⟨by rfl, (by first | exact Or.inl rfl | exact Or.inr rfl), (by first | exact Or.inl rfl | exact Or.inr rfl)⟩ ⟨by rfl, (by first | exact Or.inl rfl | exact Or.inr rfl), (by first | exact Or.inl rfl | exact Or.inr rfl)⟩ (aO (eTuple ok ⟨by rfl, by exact g.tuple⟩ (pe_shr (eLc ok (own := [("_law_k", 13)]) (wRng1 ⟨by rfl, by exact g.range⟩ (aD (nV ⟨by rfl, (by first | exact Or.inl rfl | exact Or.inr (Or.inl rfl) | exact Or.inr (Or.inr rfl)), by decide, by decide⟩) (pa_nilD))) (blkOk_by (by kernel_rfl)) (fun _ _ _ _ _ okb => gNm okb ⟨by rfl, (by first | exact Or.inl rfl | exact Or.inr rfl), (by first | exact Or.inl rfl | exact Or.inr rfl)⟩) (fun _ _ _ _ _ okb => pts_noM) (fun _ _ _ _ _ okb => eCall okb d_14 (by decide) (by rfl) (fit_b (by decide) (fit_nil)) (rB ⟨by rfl, (by first | exact Or.inl rfl | exact Or.inr (Or.inl rfl) | exact Or.inr (Or.inr rfl)), by decide, by decide⟩ (pa_nilA)))))) (aO (eLc ok (own := [("_law_k", 13)]) (wRng1 ⟨by rfl, by exact g.range⟩ (aD (nV ⟨by rfl, (by first | exact Or.inl rfl | exact Or.inr (Or.inl rfl) | exact Or.inr (Or.inr rfl)), by decide, by decide⟩) (pa_nilD))) (blkOk_by (by kernel_rfl)) (fun _ _ _ _ _ okb => gNm okb ⟨by rfl, (by first | exact Or.inl rfl | exact Or.inr rfl), (by first | exact Or.inl rfl | exact Or.inr rfl)⟩) (fun _ _ _ _ _ okb => pts_noM) (fun _ _ _ _ _ okb => eCall okb d_15 (by decide) (by rfl) (fit_b (by decide) (fit_nil)) (rB ⟨by rfl, (by first | exact Or.inl rfl | exact Or.inr (Or.inl rfl) | exact Or.inr (Or.inr rfl)), by decide, by decide⟩ (pa_nilA)))) (pa_nilO)))) (pss_seq (ps_ifM ((pw_orM (eCmp ok (pe_shr (eCall ok d_6 (by decide) (by rfl) (fit_o (fit_o (fit_nil))) (rO (pe_own (nV ⟨by rfl, (by first | exact Or.inl rfl | exact Or.inr (Or.inl rfl) | exact Or.inr (Or.inr rfl)), by decide, by decide⟩)) (rO (pe_own (nV ⟨by rfl, (by first | exact Or.inl rfl | exact Or.inr (Or.inl rfl) | exact Or.inr (Or.inr rfl)), by decide, by decide⟩)) (pa_nilA))))) (pe_shr (eCall ok d_11 (by decide) (by rfl) (fit_o (fit_o (fit_nil))) (rO (pe_own (nV ⟨by rfl, (by first | exact Or.inl rfl | exact Or.inr (Or.inl rfl) | exact Or.inr (Or.inr rfl)), by decide, by decide⟩)) (rO (pe_own (nV ⟨by rfl, (by first | exact Or.inl rfl | exact Or.inr (Or.inl rfl) | exact Or.inr (Or.inr rfl)), by decide, by decide⟩)) (pa_nilA)))))) (pw_or1 (eCmp ok (pe_shr (eCall ok d_6 (by decide) (by rfl) (fit_o (fit_o (fit_nil))) (rO (pe_own (pe_shr (eList ok ⟨by rfl, by exact g.list⟩ (nV ⟨by rfl, (by first | exact Or.inl rfl | exact Or.inr (Or.inl rfl) | exact Or.inr (Or.inr rfl)), by decide, by decide⟩)))) (rO (pe_own (pe_shr (eTuple ok ⟨by rfl, by exact g.tuple⟩ (nV ⟨by rfl, (by first | exact Or.inl rfl | exact Or.inr (Or.inl rfl) | exact Or.inr (Or.inr rfl)), by decide, by decide⟩)))) (pa_nilA))))) (pe_shr (eCall ok d_11 (by decide) (by rfl) (fit_o (fit_o (fit_nil))) (rO (pe_own (nV ⟨by rfl, (by first | exact Or.inl rfl | exact Or.inr (Or.inl rfl) | exact Or.inr (Or.inr rfl)), by decide, by decide⟩)) (rO (pe_own (nV ⟨by rfl, (by first | exact Or.inl rfl | exact Or.inr (Or.inl rfl) | exact Or.inr (Or.inr rfl)), by decide, by decide⟩)) (pa_nilA)))))))).pt) (pss_one' (sRet (pe_own (pe_cBl)))) (pss_skip)) (pss_seq (sSet ok ⟨by rfl, (by first | exact Or.inl rfl | exact Or.inr rfl), (by first | exact Or.inl rfl | exact Or.inr rfl)⟩ (eCall ok d_12 (by decide) (by rfl) (fit_b (by decide) (fit_nil)) (rB ⟨by rfl, (by first | exact Or.inl rfl | exact Or.inr (Or.inl rfl) | exact Or.inr (Or.inr rfl)), by decide, by decide⟩ (pa_nilA)))) (pss_seq (sSet ok ⟨by rfl, (by first | exact Or.inl rfl | exact Or.inr rfl), (by first | exact Or.inl rfl | exact Or.inr rfl)⟩ (eLst ok (aD (nV ⟨by rfl, (by first | exact Or.inl rfl | exact Or.inr (Or.inl rfl) | exact Or.inr (Or.inr rfl)), by decide, by decide⟩) (aD (pe_shr (eList ok ⟨by rfl, by exact g.list⟩ (nV ⟨by rfl, (by first | exact Or.inl rfl | exact Or.inr (Or.inl rfl) | exact Or.inr (Or.inr rfl)), by decide, by decide⟩))) (aD (pe_shr (eBin ok (nV ⟨by rfl, (by first | exact Or.inl rfl | exact Or.inr (Or.inl rfl) | exact Or.inr (Or.inr rfl)), by decide, by decide⟩) (eTup ok (aD (pe_cInt) (pa_nilD))))) (aD (pe_shr (eSlice ok (nV ⟨by rfl, (by first | exact Or.inl rfl | exact Or.inr (Or.inl rfl) | exact Or.inr (Or.inr rfl)), by decide, by decide⟩) (po_noE) (po_someE (pe_cInt)))) (aD (eTup ok (aD (pe_shr (eBin ok (eVix ok ⟨by rfl, (by first | exact Or.inl rfl | exact Or.inr (Or.inl rfl) | exact Or.inr (Or.inr rfl)), by decide, by decide⟩ (pe_cInt)) (pe_cInt))) (aD (pe_shr (eBin ok (eVix ok ⟨by rfl, (by first | exact Or.inl rfl | exact Or.inr (Or.inl rfl) | exact Or.inr (Or.inr rfl)), by decide, by decide⟩ (pe_cInt)) (pe_cInt))) (pa_nilD)))) (aD (eTup ok (aD (eVix ok ⟨by rfl, (by first | exact Or.inl rfl | exact Or.inr (Or.inl rfl) | exact Or.inr (Or.inr rfl)), by decide, by decide⟩ (pe_cInt)) (aD (pe_shr (eBin ok (pe_cInt) (eVix ok ⟨by rfl, (by first | exact Or.inl rfl | exact Or.inr (Or.inl rfl) | exact Or.inr (Or.inr rfl)), by decide, by decide⟩ (pe_cInt)))) (pa_nilD)))) (aD (eTup ok (aD (nV ⟨by rfl, (by first | exact Or.inl rfl | exact Or.inr (Or.inl rfl) | exact Or.inr (Or.inr rfl)), by decide, by decide⟩) (aD (pe_cInt) (pa_nilD)))) (aD (eTup ok (aD (pe_cInt) (aD (nV ⟨by rfl, (by first | exact Or.inl rfl | exact Or.inr (Or.inl rfl) | exact Or.inr (Or.inr rfl)), by decide, by decide⟩) (pa_nilD)))) (aD (nV ⟨by rfl, (by first | exact Or.inl rfl | exact Or.inr (Or.inl rfl) | exact Or.inr (Or.inr rfl)), by decide, by decide⟩) (aD (eTup ok (aD (pe_cBl) (aD (pe_cInt) (pa_nilD)))) (aD (eTup ok (aD (pe_cInt) (aD (pe_cInt) (pa_nilD)))) (pa_nilD)))))))))))))) (pss_one' (sFor ok po (wVal ok (pe_shr (eBin ok (nV ⟨by rfl, (by first | exact Or.inl rfl | exact Or.inr (Or.inl rfl) | exact Or.inr (Or.inr rfl)), by decide, by decide⟩) (pe_shr (eLst ok (aD (eTup ok (aD (pe_cInt) (aD (pe_cInt) (pa_nilD)))) (aD (eTup ok (aD (pe_cInt) (aD (pe_cInt) (pa_nilD)))) (aD (eTup ok (aD (pe_cInt) (aD (pe_cInt) (pa_nilD)))) (aD (eTup ok (aD (pe_cInt) (aD (pe_cBl) (pa_nilD)))) (aD (eTup ok (aD (nV ⟨by rfl, (by first | exact Or.inl rfl | exact Or.inr (Or.inl rfl) | exact Or.inr (Or.inr rfl)), by decide, by decide⟩) (aD (pe_cInt) (pa_nilD)))) (aD (pe_cNon) (aD (eTup ok (aD (pe_cStr s7_eq) (aD (pe_cInt) (pa_nilD)))) (aD (eTup ok (aD (eNeg (pe_cInt)) (aD (pe_cInt) (pa_nilD)))) (aD (eTup ok (aD (pe_shr (eBin ok (pe_cInt) (pe_cInt))) (aD (pe_shr (eBin ok (pe_cInt) (pe_cInt))) (pa_nilD)))) (pa_nilD))))))))))))))) (gNm ok ⟨by rfl, (by first | exact Or.inl rfl | exact Or.inr rfl), (by first | exact Or.inl rfl | exact Or.inr rfl)⟩) (pss_one' (ps_ifM (eCmp ok (pe_shr (eRepr ok ⟨by rfl, by exact g.repr⟩ (pe_shr (eCall ok d_5 (by decide) (by rfl) (fit_o (fit_nil)) (rO (pe_own (nV ⟨by rfl, (by first | exact Or.inl rfl | exact Or.inr (Or.inl rfl) | exact Or.inr (Or.inr rfl)), by decide, by decide⟩)) (pa_nilA)))))) (pe_shr (eRepr ok ⟨by rfl, by exact g.repr⟩ (pe_shr (eCall ok d_13 (by decide) (by rfl) (fit_o (fit_nil)) (rO (pe_own (nV ⟨by rfl, (by first | exact Or.inl rfl | exact Or.inr (Or.inl rfl) | exact Or.inr (Or.inr rfl)), by decide, by decide⟩)) (pa_nilA))))))) (pss_one' (sRet (pe_own (pe_cBl)))) (pss_skip))))))))))))))))) (pss_one' (sRet (pe_own (eCmpV ok (pe_shr (eLst ok (aD (pe_shr (eCall ok d_2 (by decide) (by rfl) (fit_o (fit_o (fit_nil))) (rO (pe_own (pe_cInt)) (rO (pe_own (eNeg (pe_cInt))) (pa_nilA))))) (aD (pe_shr (eCall ok d_2 (by decide) (by rfl) (fit_o (fit_o (fit_nil))) (rO (pe_own (pe_cInt)) (rO (pe_own (eNeg (pe_cInt))) (pa_nilA))))) (aD (pe_shr (eCall ok d_3 (by decide) (by rfl) (fit_o (fit_o (fit_nil))) (rO (pe_own (eTup ok (aD (pe_cInt) (aD (pe_cInt) (pa_nilD))))) (rO (pe_own (eTup ok (aD (eNeg (pe_cInt)) (aD (pe_cInt) (pa_nilD))))) (pa_nilA))))) (aD (pe_shr (eCall ok d_4 (by decide) (by rfl) (fit_o (fit_o (fit_nil))) (rO (pe_own (eTup ok (aD (pe_cInt) (aD (pe_cInt) (pa_nilD))))) (rO (pe_own (eTup ok (aD (pe_cInt) (aD (pe_cInt) (pa_nilD))))) (pa_nilA))))) (aD (pe_shr (eCall ok d_6 (by decide) (by rfl) (fit_o (fit_o (fit_nil))) (rO (pe_own (eTup ok (pa_nilD))) (rO (pe_own (eTup ok (pa_nilD))) (pa_nilA))))) (pa_nilD)))))))) (pe_shr (eLst ok (aD (eTup ok (aD (eNeg (pe_cInt)) (aD (pe_cInt) (pa_nilD)))) (aD (eTup ok (aD (pe_cInt) (aD (pe_cInt) (pa_nilD)))) (aD (eTup ok (aD (pe_cInt) (aD (pe_cInt) (pa_nilD)))) (aD (eTup ok (aD (pe_cInt) (aD (pe_cInt) (pa_nilD)))) (aD (eTup ok (aD (pe_cInt) (aD (pe_cInt) (pa_nilD)))) (pa_nilD)))))))))))))
def fn0 : List He.DefD := [⟨("is_integer", none), "is_integer", "is_integer", defArgs (top 1), defBody (top 1), defScope (top 1), [], []⟩, ⟨("common_divisor", none), "common_divisor", "common_divisor", defArgs (top 3), defBody (top 3), defScope (top 3), [], []⟩, ⟨("lowest", none), "lowest", "lowest", defArgs (top 4), defBody (top 4), defScope (top 4), [], []⟩, ⟨("added", none), "added", "added", defArgs (top 5), defBody (top 5), defScope (top 5), [], []⟩, ⟨("times", none), "times", "times", defArgs (top 6), defBody (top 6), defScope (top 6), [], []⟩, ⟨("is_fraction", none), "is_fraction", "is_fraction", defArgs (top 7), defBody (top 7), defScope (top 7), [], []⟩, ⟨("row_sum", none), "row_sum", "row_sum", defArgs (top 8), defBody (top 8), defScope (top 8), [], []⟩, ⟨("_law_pick", none), "_law_pick", "_law_pick", defArgs (top 10), defBody (top 10), defScope (top 10), [], []⟩, ⟨("_law_of", none), "_law_of", "_law_of", defArgs (top 11), defBody (top 11), defScope (top 11), [], []⟩, ⟨("_law_lowest", none), "_law_lowest", "_law_lowest", defArgs (top 12), defBody (top 12), defScope (top 12), [], []⟩, ⟨("_law_source", none), "_law_source", "_law_source", defArgs (top 13), defBody (top 13), defScope (top 13), [], []⟩, ⟨("_law_row_sum", none), "_law_row_sum", "_law_row_sum", defArgs (top 14), defBody (top 14), defScope (top 14), [], []⟩, ⟨("_law_odd", none), "_law_odd", "_law_odd", defArgs (top 15), defBody (top 15), defScope (top 15), [], []⟩, ⟨("_law_is_fraction", none), "_law_is_fraction", "_law_is_fraction", defArgs (top 16), defBody (top 16), defScope (top 16), [], []⟩, ⟨("_law_number", none), "_law_number", "_law_number", defArgs (top 17), defBody (top 17), defScope (top 17), [], []⟩, ⟨("_law_drawn", none), "_law_drawn", "_law_drawn", defArgs (top 18), defBody (top 18), defScope (top 18), [], []⟩, ⟨("law", none), "law", "law", defArgs (top 19), defBody (top 19), defScope (top 19), [], []⟩]
def fn : List He.DefD := fn0
def fa0 : List He.Fa := [.glo "is_integer", .glo "common_divisor", .glo "lowest", .glo "added", .glo "times", .glo "is_fraction", .glo "row_sum", .glo "_law_pick", .glo "_law_of", .glo "_law_lowest", .glo "_law_source", .glo "_law_row_sum", .glo "_law_odd", .glo "_law_is_fraction", .glo "_law_number", .glo "_law_drawn", .glo "law", .free "abs", .free "bool", .free "int", .free "isinstance", .free "len", .free "list", .free "max", .free "range", .free "repr", .free "tuple", .free "zip"]
def fa : List He.Fa := fa0
def loose0 : List PySem.Str := ["is_integer", "common_divisor", "lowest", "added", "times", "is_fraction", "row_sum", "_law_pick", "_law_of", "_law_lowest", "_law_source", "_law_row_sum", "_law_odd", "_law_is_fraction", "_law_number", "_law_drawn"]
def loose : List PySem.Str := loose0
abbrev R : PySem.W.OpenRow := PySem.W.OpenLaw.row PySem.Challenge.rw_eitherbarter_k21_fractions
abbrev hk : PySem.W.Hook := He.hookD 4 fa fn
def ob (s : PySem.W.SharedT) : He.AlD := He.obsDG 4 fa fn (HandSHeadRun.getT s)
theorem ob_eq (s : PySem.W.SharedT) : ob s = hk.obs s.abs := He.obsDG_eq (HandSHeadRun.getT_eq s)
theorem run (w : World) : HandSHeadRun.RunEq R (PySem.W.view R.prog [19]) hk ob 3000 loose w := by
  intro os
  kernel_rfl
/-! ### the defs, by the head -/
theorem facts {P : Program} {w : World} {K : PySem.W.Frag} {h : Heap} {mg : Str → Option Value} {f : Addr} (X : K.In h) (G : h.Ns mainGlobals mg) (hfa : mg ("law" : Str) = some (.ref f)) (c : He.SaysD fa fn K) :
    ∃ fd : FuncData, (∀ (s : Shared) (v : Value), BindsTo s fd ⟨[v], []⟩ [("_law_script", v)]) ∧ ∀ base : Heap, FnG P w K mg base 5 f fd ["_law_script"] (spM (Wc K) J0 N_16 ["_law_script"] [] (b_16 FUEL)) := by
  have g : GF mg := ⟨He.free_ok X G (c.fact 17 (f := .free "abs") rfl), He.free_ok X G (c.fact 18 (f := .free "bool") rfl), He.free_ok X G (c.fact 19 (f := .free "int") rfl), He.free_ok X G (c.fact 20 (f := .free "isinstance") rfl), He.free_ok X G (c.fact 21 (f := .free "len") rfl), He.free_ok X G (c.fact 22 (f := .free "list") rfl), He.free_ok X G (c.fact 23 (f := .free "max") rfl), He.free_ok X G (c.fact 24 (f := .free "range") rfl), He.free_ok X G (c.fact 25 (f := .free "repr") rfl), He.free_ok X G (c.fact 26 (f := .free "tuple") rfl), He.free_ok X G (c.fact 27 (f := .free "zip") rfl)⟩
  obtain ⟨fd_0, F_0⟩ := c.def_ 0 (d := ⟨("is_integer", none), "is_integer", "is_integer", defArgs (top 1), defBody (top 1), defScope (top 1), [], []⟩) rfl
  have G_0 : ∀ base : Heap, FnG P w K mg base 1 _ fd_0 ["value"] (spM (Wc K) J0 N_0 ["value"] [] (b_0 FUEL)) := fun base => fnG_of F_0 sc_0 fun cdv A outer s H E hr hg => pb_0 g  hr hg
  have D_0 : ∀ base : Heap, DefG (Wc K) J0 P w K mg base 1 "is_integer" N_0 ["value"] [] (b_0 FUEL) := fun base => ⟨⟨_, fd_0, G_0 base, He.glo_ok X G (c.fact 0 (f := .glo "is_integer") rfl), F_0.kp, F_0.bindsN fun _ _ _ _ _ _ us hl => match us, hl with | [_], _ => rfl⟩, by decide, by decide⟩
  obtain ⟨fd_1, F_1⟩ := c.def_ 1 (d := ⟨("common_divisor", none), "common_divisor", "common_divisor", defArgs (top 3), defBody (top 3), defScope (top 3), [], []⟩) rfl
  have G_1 : ∀ base : Heap, FnG P w K mg base 1 _ fd_1 ["a", "b"] (spM (Wc K) J0 N_1 ["a", "b"] [] (b_1 FUEL)) := fun base => fnG_of F_1 sc_1 fun cdv A outer s H E hr hg => pb_1 g  hr hg
  have D_1 : ∀ base : Heap, DefG (Wc K) J0 P w K mg base 1 "common_divisor" N_1 ["a", "b"] [] (b_1 FUEL) := fun base => ⟨⟨_, fd_1, G_1 base, He.glo_ok X G (c.fact 1 (f := .glo "common_divisor") rfl), F_1.kp, F_1.bindsN fun _ _ _ _ _ _ us hl => match us, hl with | [_, _], _ => rfl⟩, by decide, by decide⟩
  obtain ⟨fd_2, F_2⟩ := c.def_ 2 (d := ⟨("lowest", none), "lowest", "lowest", defArgs (top 4), defBody (top 4), defScope (top 4), [], []⟩) rfl
  have G_2 : ∀ base : Heap, FnG P w K mg base 2 _ fd_2 ["a", "b"] (spM (Wc K) J0 N_2 ["a", "b"] [] (b_2 FUEL)) := fun base => fnG_of F_2 sc_2 fun cdv A outer s H E hr hg => pb_2 g (D_1 base) hr hg
  have D_2 : ∀ base : Heap, DefG (Wc K) J0 P w K mg base 2 "lowest" N_2 ["a", "b"] [] (b_2 FUEL) := fun base => ⟨⟨_, fd_2, G_2 base, He.glo_ok X G (c.fact 2 (f := .glo "lowest") rfl), F_2.kp, F_2.bindsN fun _ _ _ _ _ _ us hl => match us, hl with | [_, _], _ => rfl⟩, by decide, by decide⟩
  obtain ⟨fd_3, F_3⟩ := c.def_ 3 (d := ⟨("added", none), "added", "added", defArgs (top 5), defBody (top 5), defScope (top 5), [], []⟩) rfl
  have G_3 : ∀ base : Heap, FnG P w K mg base 3 _ fd_3 ["one", "other"] (spM (Wc K) J0 N_3 ["one", "other"] [] (b_3 FUEL)) := fun base => fnG_of F_3 sc_3 fun cdv A outer s H E hr hg => pb_3 g (D_2 base) hr hg
  have D_3 : ∀ base : Heap, DefG (Wc K) J0 P w K mg base 3 "added" N_3 ["one", "other"] [] (b_3 FUEL) := fun base => ⟨⟨_, fd_3, G_3 base, He.glo_ok X G (c.fact 3 (f := .glo "added") rfl), F_3.kp, F_3.bindsN fun _ _ _ _ _ _ us hl => match us, hl with | [_, _], _ => rfl⟩, by decide, by decide⟩
  obtain ⟨fd_4, F_4⟩ := c.def_ 4 (d := ⟨("times", none), "times", "times", defArgs (top 6), defBody (top 6), defScope (top 6), [], []⟩) rfl
  have G_4 : ∀ base : Heap, FnG P w K mg base 3 _ fd_4 ["one", "other"] (spM (Wc K) J0 N_4 ["one", "other"] [] (b_4 FUEL)) := fun base => fnG_of F_4 sc_4 fun cdv A outer s H E hr hg => pb_4 g (D_2 base) hr hg
  have D_4 : ∀ base : Heap, DefG (Wc K) J0 P w K mg base 3 "times" N_4 ["one", "other"] [] (b_4 FUEL) := fun base => ⟨⟨_, fd_4, G_4 base, He.glo_ok X G (c.fact 4 (f := .glo "times") rfl), F_4.kp, F_4.bindsN fun _ _ _ _ _ _ us hl => match us, hl with | [_, _], _ => rfl⟩, by decide, by decide⟩
  obtain ⟨fd_5, F_5⟩ := c.def_ 5 (d := ⟨("is_fraction", none), "is_fraction", "is_fraction", defArgs (top 7), defBody (top 7), defScope (top 7), [], []⟩) rfl
  have G_5 : ∀ base : Heap, FnG P w K mg base 2 _ fd_5 ["value"] (spM (Wc K) J0 N_5 ["value"] [] (b_5 FUEL)) := fun base => fnG_of F_5 sc_5 fun cdv A outer s H E hr hg => pb_5 g (D_0 base) (D_1 base) hr hg
  have D_5 : ∀ base : Heap, DefG (Wc K) J0 P w K mg base 2 "is_fraction" N_5 ["value"] [] (b_5 FUEL) := fun base => ⟨⟨_, fd_5, G_5 base, He.glo_ok X G (c.fact 5 (f := .glo "is_fraction") rfl), F_5.kp, F_5.bindsN fun _ _ _ _ _ _ us hl => match us, hl with | [_], _ => rfl⟩, by decide, by decide⟩
  obtain ⟨fd_6, F_6⟩ := c.def_ 6 (d := ⟨("row_sum", none), "row_sum", "row_sum", defArgs (top 8), defBody (top 8), defScope (top 8), [], []⟩) rfl
  have G_6 : ∀ base : Heap, FnG P w K mg base 4 _ fd_6 ["row", "fractions"] (spM (Wc K) J0 N_6 ["row", "fractions"] [] (b_6 FUEL)) := fun base => fnG_of F_6 sc_6 fun cdv A outer s H E hr hg => pb_6 g (D_3 base) (D_4 base) hr hg
  have D_6 : ∀ base : Heap, DefG (Wc K) J0 P w K mg base 4 "row_sum" N_6 ["row", "fractions"] [] (b_6 FUEL) := fun base => ⟨⟨_, fd_6, G_6 base, He.glo_ok X G (c.fact 6 (f := .glo "row_sum") rfl), F_6.kp, F_6.bindsN fun _ _ _ _ _ _ us hl => match us, hl with | [_, _], _ => rfl⟩, by decide, by decide⟩
  obtain ⟨fd_7, F_7⟩ := c.def_ 7 (d := ⟨("_law_pick", none), "_law_pick", "_law_pick", defArgs (top 10), defBody (top 10), defScope (top 10), [], []⟩) rfl
  have G_7 : ∀ base : Heap, FnG P w K mg base 1 _ fd_7 ["_law_source_here", "_law_many"] (spM (Wc K) J0 N_7 ["_law_source_here", "_law_many"] [0] (b_7 FUEL)) := fun base => fnG_of F_7 sc_7 fun cdv A outer s H E hr hg => pb_7 g  hr hg
  have D_7 : ∀ base : Heap, DefG (Wc K) J0 P w K mg base 1 "_law_pick" N_7 ["_law_source_here", "_law_many"] [0] (b_7 FUEL) := fun base => ⟨⟨_, fd_7, G_7 base, He.glo_ok X G (c.fact 7 (f := .glo "_law_pick") rfl), F_7.kp, F_7.bindsN fun _ _ _ _ _ _ us hl => match us, hl with | [_, _], _ => rfl⟩, by decide, by decide⟩
  obtain ⟨fd_8, F_8⟩ := c.def_ 8 (d := ⟨("_law_of", none), "_law_of", "_law_of", defArgs (top 11), defBody (top 11), defScope (top 11), [], []⟩) rfl
  have G_8 : ∀ base : Heap, FnG P w K mg base 2 _ fd_8 ["_law_source_here", "_law_some"] (spM (Wc K) J0 N_8 ["_law_source_here", "_law_some"] [0] (b_8 FUEL)) := fun base => fnG_of F_8 sc_8 fun cdv A outer s H E hr hg => pb_8 g (D_7 base) hr hg
  have D_8 : ∀ base : Heap, DefG (Wc K) J0 P w K mg base 2 "_law_of" N_8 ["_law_source_here", "_law_some"] [0] (b_8 FUEL) := fun base => ⟨⟨_, fd_8, G_8 base, He.glo_ok X G (c.fact 8 (f := .glo "_law_of") rfl), F_8.kp, F_8.bindsN fun _ _ _ _ _ _ us hl => match us, hl with | [_, _], _ => rfl⟩, by decide, by decide⟩
  obtain ⟨fd_9, F_9⟩ := c.def_ 9 (d := ⟨("_law_lowest", none), "_law_lowest", "_law_lowest", defArgs (top 12), defBody (top 12), defScope (top 12), [], []⟩) rfl
  have G_9 : ∀ base : Heap, FnG P w K mg base 1 _ fd_9 ["_law_a", "_law_b"] (spM (Wc K) J0 N_9 ["_law_a", "_law_b"] [] (b_9 FUEL)) := fun base => fnG_of F_9 sc_9 fun cdv A outer s H E hr hg => pb_9 g  hr hg
  have D_9 : ∀ base : Heap, DefG (Wc K) J0 P w K mg base 1 "_law_lowest" N_9 ["_law_a", "_law_b"] [] (b_9 FUEL) := fun base => ⟨⟨_, fd_9, G_9 base, He.glo_ok X G (c.fact 9 (f := .glo "_law_lowest") rfl), F_9.kp, F_9.bindsN fun _ _ _ _ _ _ us hl => match us, hl with | [_, _], _ => rfl⟩, by decide, by decide⟩
  obtain ⟨fd_10, F_10⟩ := c.def_ 10 (d := ⟨("_law_source", none), "_law_source", "_law_source", defArgs (top 13), defBody (top 13), defScope (top 13), [], []⟩) rfl
  have G_10 : ∀ base : Heap, FnG P w K mg base 1 _ fd_10 ["_law_script"] (spM (Wc K) J0 N_10 ["_law_script"] [] (b_10 FUEL)) := fun base => fnG_of F_10 sc_10 fun cdv A outer s H E hr hg => pb_10 g  hr hg
  have D_10 : ∀ base : Heap, DefG (Wc K) J0 P w K mg base 1 "_law_source" N_10 ["_law_script"] [] (b_10 FUEL) := fun base => ⟨⟨_, fd_10, G_10 base, He.glo_ok X G (c.fact 10 (f := .glo "_law_source") rfl), F_10.kp, F_10.bindsN fun _ _ _ _ _ _ us hl => match us, hl with | [_], _ => rfl⟩, by decide, by decide⟩
  obtain ⟨fd_11, F_11⟩ := c.def_ 11 (d := ⟨("_law_row_sum", none), "_law_row_sum", "_law_row_sum", defArgs (top 14), defBody (top 14), defScope (top 14), [], []⟩) rfl
  have G_11 : ∀ base : Heap, FnG P w K mg base 2 _ fd_11 ["_law_row", "_law_fractions"] (spM (Wc K) J0 N_11 ["_law_row", "_law_fractions"] [] (b_11 FUEL)) := fun base => fnG_of F_11 sc_11 fun cdv A outer s H E hr hg => pb_11 g (D_9 base) hr hg
  have D_11 : ∀ base : Heap, DefG (Wc K) J0 P w K mg base 2 "_law_row_sum" N_11 ["_law_row", "_law_fractions"] [] (b_11 FUEL) := fun base => ⟨⟨_, fd_11, G_11 base, He.glo_ok X G (c.fact 11 (f := .glo "_law_row_sum") rfl), F_11.kp, F_11.bindsN fun _ _ _ _ _ _ us hl => match us, hl with | [_, _], _ => rfl⟩, by decide, by decide⟩
  obtain ⟨fd_12, F_12⟩ := c.def_ 12 (d := ⟨("_law_odd", none), "_law_odd", "_law_odd", defArgs (top 15), defBody (top 15), defScope (top 15), [], []⟩) rfl
  have G_12 : ∀ base : Heap, FnG P w K mg base 3 _ fd_12 ["_law_source_here"] (spM (Wc K) J0 N_12 ["_law_source_here"] [0] (b_12 FUEL)) := fun base => fnG_of F_12 sc_12 fun cdv A outer s H E hr hg => pb_12 g (D_8 base) hr hg
  have D_12 : ∀ base : Heap, DefG (Wc K) J0 P w K mg base 3 "_law_odd" N_12 ["_law_source_here"] [0] (b_12 FUEL) := fun base => ⟨⟨_, fd_12, G_12 base, He.glo_ok X G (c.fact 12 (f := .glo "_law_odd") rfl), F_12.kp, F_12.bindsN fun _ _ _ _ _ _ us hl => match us, hl with | [_], _ => rfl⟩, by decide, by decide⟩
  obtain ⟨fd_13, F_13⟩ := c.def_ 13 (d := ⟨("_law_is_fraction", none), "_law_is_fraction", "_law_is_fraction", defArgs (top 16), defBody (top 16), defScope (top 16), [], []⟩) rfl
  have G_13 : ∀ base : Heap, FnG P w K mg base 2 _ fd_13 ["_law_value"] (spM (Wc K) J0 N_13 ["_law_value"] [] (b_13 FUEL)) := fun base => fnG_of F_13 sc_13 fun cdv A outer s H E hr hg => pb_13 g (D_9 base) hr hg
  have D_13 : ∀ base : Heap, DefG (Wc K) J0 P w K mg base 2 "_law_is_fraction" N_13 ["_law_value"] [] (b_13 FUEL) := fun base => ⟨⟨_, fd_13, G_13 base, He.glo_ok X G (c.fact 13 (f := .glo "_law_is_fraction") rfl), F_13.kp, F_13.bindsN fun _ _ _ _ _ _ us hl => match us, hl with | [_], _ => rfl⟩, by decide, by decide⟩
  obtain ⟨fd_14, F_14⟩ := c.def_ 14 (d := ⟨("_law_number", none), "_law_number", "_law_number", defArgs (top 17), defBody (top 17), defScope (top 17), [], []⟩) rfl
  have G_14 : ∀ base : Heap, FnG P w K mg base 3 _ fd_14 ["_law_source_here"] (spM (Wc K) J0 N_14 ["_law_source_here"] [0] (b_14 FUEL)) := fun base => fnG_of F_14 sc_14 fun cdv A outer s H E hr hg => pb_14 g (D_7 base) (D_8 base) hr hg
  have D_14 : ∀ base : Heap, DefG (Wc K) J0 P w K mg base 3 "_law_number" N_14 ["_law_source_here"] [0] (b_14 FUEL) := fun base => ⟨⟨_, fd_14, G_14 base, He.glo_ok X G (c.fact 14 (f := .glo "_law_number") rfl), F_14.kp, F_14.bindsN fun _ _ _ _ _ _ us hl => match us, hl with | [_], _ => rfl⟩, by decide, by decide⟩
  obtain ⟨fd_15, F_15⟩ := c.def_ 15 (d := ⟨("_law_drawn", none), "_law_drawn", "_law_drawn", defArgs (top 18), defBody (top 18), defScope (top 18), [], []⟩) rfl
  have G_15 : ∀ base : Heap, FnG P w K mg base 4 _ fd_15 ["_law_source_here"] (spM (Wc K) J0 N_15 ["_law_source_here"] [0] (b_15 FUEL)) := fun base => fnG_of F_15 sc_15 fun cdv A outer s H E hr hg => pb_15 g (D_9 base) (D_14 base) hr hg
  have D_15 : ∀ base : Heap, DefG (Wc K) J0 P w K mg base 4 "_law_drawn" N_15 ["_law_source_here"] [0] (b_15 FUEL) := fun base => ⟨⟨_, fd_15, G_15 base, He.glo_ok X G (c.fact 15 (f := .glo "_law_drawn") rfl), F_15.kp, F_15.bindsN fun _ _ _ _ _ _ us hl => match us, hl with | [_], _ => rfl⟩, by decide, by decide⟩
  obtain ⟨fd_16, F_16⟩ := c.def_ 16 (d := ⟨("law", none), "law", "law", defArgs (top 19), defBody (top 19), defScope (top 19), [], []⟩) rfl
  have G_16 : ∀ base : Heap, FnG P w K mg base 5 _ fd_16 ["_law_script"] (spM (Wc K) J0 N_16 ["_law_script"] [] (b_16 FUEL)) := fun base => fnG_of F_16 sc_16 fun cdv A outer s H E hr hg => pb_16 g (D_2 base) (D_3 base) (D_4 base) (D_5 base) (D_6 base) (D_7 base) (D_9 base) (D_10 base) (D_11 base) (D_12 base) (D_13 base) (D_14 base) (D_15 base) hr hg
  have e := hfa.symm.trans (He.glo_ok X G (c.fact 16 (f := .glo "law") rfl))
  cases e
  have b := FunD.bindsA (ps := ["_law_script"]) F_16 fun _ _ _ _ _ _ us hl => match us, hl with | [_], _ => rfl
  exact ⟨fd_16, fun s v => b s [v] rfl, fun base => G_16 base⟩
end La
end
section
namespace La
open Mp
/-! ### the greatest common divisor -/
abbrev gT : M Bool := cmpM (cmpF .NotEq) (getV 3) (Mp.ret (.int 0))
abbrev gB : M Fl := parM [2, 3] (consL (own (getV 3)) (consL (Mp.bin (binF .Mod) (getV 2) (getV 3)) (nilL)))
theorem gcd_one (v0 v1 : Option O) (n a b : Nat) (hb : b ≠ 0) : whileM (n + 1) gT gB [v0, v1, some (.sh (.int a)), some (.sh (.int b))] = whileM n gT gB [v0, v1, some (.sh (.int b)), some (.sh (.int (a % b : Nat)))] := by
  have h1 : (b : Int) ≠ 0 := by omega
  rw [v_while]
  simp [v_bnd, v_ret, v_lift, v_bad, v_shr, v_own, v_getV, v_bin, v_cmpM, v_ofB, v_tru, v_notM, v_andM, v_orM, v_andV, v_orV, v_iteM, v_nilL, v_consL, v_tupM, v_lstM, v_callM, v_negM, v_ixM, v_lookV, v_vixM, v_vvxM, v_scal1, v_noE, v_someE, v_sliceM, v_revM, v_isiM, v_skipM, v_seqM, v_retM, v_dropM, v_ifM, v_putV, v_setM, v_puts0, v_puts1, v_parM, v_bindN, v_bindT, v_asgM, v_forM, v_valM, v_rng1M, v_rng2M, v_zipM, v_setKM, v_mutN, v_mutK, v_dispM, v_nilA, v_oA, v_bA, cmp_ne, cmp_eq, cmp_lt, cmp_gt, cmp_le, cmp_ge, bin_add, bin_sub, bin_mul, bin_mod, bin_div, O.share, truF, List.getElem?_cons_zero, List.getElem?_cons_succ, h1, hb, Int.fmod_eq_emod_of_nonneg]
theorem gcd_end (v0 v1 : Option O) (n a : Nat) : whileM (n + 1) gT gB [v0, v1, some (.sh (.int a)), some (.sh (.int 0))] = (.ok .nx, [v0, v1, some (.sh (.int a)), some (.sh (.int 0))]) := by
  rw [v_while]
  simp [v_bnd, v_ret, v_lift, v_bad, v_shr, v_own, v_getV, v_bin, v_cmpM, v_ofB, v_tru, v_notM, v_andM, v_orM, v_andV, v_orV, v_iteM, v_nilL, v_consL, v_tupM, v_lstM, v_callM, v_negM, v_ixM, v_lookV, v_vixM, v_vvxM, v_scal1, v_noE, v_someE, v_sliceM, v_revM, v_isiM, v_skipM, v_seqM, v_retM, v_dropM, v_ifM, v_putV, v_setM, v_puts0, v_puts1, v_parM, v_bindN, v_bindT, v_asgM, v_forM, v_valM, v_rng1M, v_rng2M, v_zipM, v_setKM, v_mutN, v_mutK, v_dispM, v_nilA, v_oA, v_bA, cmp_ne, cmp_eq, cmp_lt, cmp_gt, cmp_le, cmp_ge, bin_add, bin_sub, bin_mul, bin_mod, bin_div, O.share, truF, List.getElem?_cons_zero, List.getElem?_cons_succ]
theorem half_mod {b r k : Nat} (hr : r ≠ 0) (h : r < b) (hb : b < 2 ^ (k + 1)) : b % r < 2 ^ k := by
  have h1 : b % r < r := Nat.mod_lt _ (by omega)
  have h2 : b % r + r ≤ b := by
    have h3 := Nat.div_add_mod b r
    have h4 : 1 ≤ b / r := Nat.div_pos (by omega) (by omega)
    have h5 : r * 1 ≤ r * (b / r) := Nat.mul_le_mul_left r h4
    omega
  have h6 : (2 : Nat) ^ (k + 1) = 2 ^ k * 2 := Nat.pow_succ ..
  omega
theorem gcd_loop (v0 v1 : Option O) : ∀ (k a b n : Nat), b < 2 ^ k → 2 * k + 1 ≤ n → whileM n gT gB [v0, v1, some (.sh (.int a)), some (.sh (.int b))] = (.ok .nx, [v0, v1, some (.sh (.int (Nat.gcd a b : Nat))), some (.sh (.int 0))])
  | 0, a, b, n, hb, hn => by
    obtain ⟨m, rfl⟩ : ∃ m, n = m + 1 := ⟨n - 1, by omega⟩
    obtain rfl : b = 0 := by simp at hb; omega
    rw [Nat.gcd_zero_right]
    exact gcd_end v0 v1 m a
  | k + 1, a, b, n, hb, hn => by
    obtain ⟨m, rfl⟩ : ∃ m, n = m + 1 := ⟨n - 1, by omega⟩
    by_cases h0 : b = 0
    · subst h0
      rw [Nat.gcd_zero_right]
      exact gcd_end v0 v1 m a
    · rw [gcd_one v0 v1 m a b h0]
      obtain ⟨m, rfl⟩ : ∃ j, m = j + 1 := ⟨m - 1, by omega⟩
      have e1 : Nat.gcd a b = Nat.gcd b (a % b) := by rw [Nat.gcd_comm a b, Nat.gcd_rec b a, Nat.gcd_comm]
      rw [e1]
      by_cases h1 : a % b = 0
      · rw [h1, Nat.gcd_zero_right]
        exact gcd_end v0 v1 m b
      · rw [gcd_one v0 v1 m b (a % b) h1]
        have e2 : Nat.gcd b (a % b) = Nat.gcd (a % b) (b % (a % b)) := by rw [Nat.gcd_comm b, Nat.gcd_rec (a % b) b, Nat.gcd_comm]
        rw [e2]
        exact gcd_loop v0 v1 k (a % b) (b % (a % b)) m (half_mod h1 (Nat.mod_lt _ (by omega)) hb) (by omega)
theorem abs_nat (a : Int) : (if a < 0 then -a else a) = (a.natAbs : Int) := by
  split <;> omega
theorem b1_ok {FU k : Nat} (hF : 2 * k + 1 ≤ FU) (a b : Int) (hb : b.natAbs < 2 ^ k) : ∃ e, b_1 FU [some (.sh (.int a)), some (.sh (.int b)), none, none] = (.ok (.rt (.sh (.int (Nat.gcd a.natAbs b.natAbs : Nat)))), e) := by
  have h := gcd_loop (some (.sh (.int a))) (some (.sh (.int b))) k a.natAbs b.natAbs FU hb hF
  unfold b_1
  simp [v_bnd, v_ret, v_lift, v_bad, v_shr, v_own, v_getV, v_bin, v_cmpM, v_ofB, v_tru, v_notM, v_andM, v_orM, v_andV, v_orV, v_iteM, v_nilL, v_consL, v_tupM, v_lstM, v_callM, v_negM, v_ixM, v_lookV, v_vixM, v_vvxM, v_scal1, v_noE, v_someE, v_sliceM, v_revM, v_isiM, v_skipM, v_seqM, v_retM, v_dropM, v_ifM, v_putV, v_setM, v_puts0, v_puts1, v_parM, v_bindN, v_bindT, v_asgM, v_forM, v_valM, v_rng1M, v_rng2M, v_zipM, v_setKM, v_mutN, v_mutK, v_dispM, v_nilA, v_oA, v_bA, cmp_ne, cmp_eq, cmp_lt, cmp_gt, cmp_le, cmp_ge, bin_add, bin_sub, bin_mul, bin_mod, bin_div, O.share, truF, List.getElem?_cons_zero, List.getElem?_cons_succ, absF, abs_nat, h]
end La
end
section
namespace La
open Mp
/-! ### lowest terms -/
def Small (a : Int) : Prop := a.natAbs < 2 ^ 9000
theorem log_small {n : Nat} (h : n < 2 ^ 9000) : n.log2 < 9000 := by
  by_cases h0 : n = 0
  · rw [h0, Nat.log2_zero]
    exact Nat.zero_lt_succ _
  · exact (Nat.log2_lt h0).mpr h
theorem mul_small {a b : Int} (ha : Small a) (hb : Small b) : mulOk a b = true := by
  have h1 := log_small ha
  have h2 := log_small hb
  have h3 : a.natAbs.log2 + b.natAbs.log2 < 1000000 := by omega
  unfold mulOk
  rw [decide_eq_true h3, Bool.or_true]
def sgd (a b : Int) : Int := if 0 < b then (Nat.gcd a.natAbs b.natAbs : Nat) else 0 - (Nat.gcd a.natAbs b.natAbs : Nat)
def low (a b : Int) : Int × Int := (a.fdiv (sgd a b), b.fdiv (sgd a b))
theorem gcd_pos' {a b : Int} (hb : b ≠ 0) : 0 < Nat.gcd a.natAbs b.natAbs := Nat.gcd_pos_of_pos_right _ (by omega)
theorem sgd_ne {a b : Int} (hb : b ≠ 0) : sgd a b ≠ 0 := by
  have := gcd_pos' (a := a) hb
  unfold sgd
  split <;> omega
theorem sgd_abs (a b : Int) : (sgd a b).natAbs = Nat.gcd a.natAbs b.natAbs := by
  unfold sgd
  split <;> omega
theorem sgd_log {a b : Int} (hb : b ≠ 0) (hs : Small b) : (sgd a b).natAbs.log2 < 9000 := by
  rw [sgd_abs]
  exact log_small (Nat.lt_of_le_of_lt (Nat.gcd_le_right _ (by omega)) hs)
theorem b2_ok {FU : Nat} (hF : 18001 ≤ FU) (a b : Int) (hb : b ≠ 0) (hs : Small b) : ∃ e, b_2 FU [some (.sh (.int a)), some (.sh (.int b)), none] = (.ok (.rt (.sh (.tup [.int (low a b).1, .int (low a b).2]))), e) := by
  obtain ⟨e, h⟩ := b1_ok (FU := FU) (k := 9000) hF a b hs
  have h1 := sgd_ne (a := a) hb
  have h2 := sgd_log (a := a) hb hs
  unfold b_2
  by_cases hp : 0 < b
  · have h3 : sgd a b = (Nat.gcd a.natAbs b.natAbs : Nat) := by
      unfold sgd
      rw [if_pos hp]
    rw [h3] at h1 h2
    simp only [Int.natAbs_natCast] at h2
    simp [v_bnd, v_ret, v_lift, v_bad, v_shr, v_own, v_getV, v_bin, v_cmpM, v_ofB, v_tru, v_notM, v_andM, v_orM, v_andV, v_orV, v_iteM, v_nilL, v_consL, v_tupM, v_lstM, v_callM, v_negM, v_ixM, v_lookV, v_vixM, v_vvxM, v_scal1, v_noE, v_someE, v_sliceM, v_revM, v_isiM, v_skipM, v_seqM, v_retM, v_dropM, v_ifM, v_putV, v_setM, v_puts0, v_puts1, v_parM, v_bindN, v_bindT, v_asgM, v_forM, v_valM, v_rng1M, v_rng2M, v_zipM, v_setKM, v_mutN, v_mutK, v_dispM, v_nilA, v_oA, v_bA, cmp_ne, cmp_eq, cmp_lt, cmp_gt, cmp_le, cmp_ge, bin_add, bin_sub, bin_mul, bin_mod, bin_div, O.share, truF, List.getElem?_cons_zero, List.getElem?_cons_succ, v_callF, takeA, backA, startE, hp, h, low, h3, lim, Int.natAbs_natCast, h2, hb]
  · have h3 : sgd a b = 0 - (Nat.gcd a.natAbs b.natAbs : Nat) := by
      unfold sgd
      rw [if_neg hp]
    rw [h3] at h1 h2
    have h4 : (Nat.gcd a.natAbs b.natAbs).log2 < 9000 := by
      have h5 : (0 - ((Nat.gcd a.natAbs b.natAbs : Nat) : Int)).natAbs = Nat.gcd a.natAbs b.natAbs := by omega
      rwa [h5] at h2
    simp [v_bnd, v_ret, v_lift, v_bad, v_shr, v_own, v_getV, v_bin, v_cmpM, v_ofB, v_tru, v_notM, v_andM, v_orM, v_andV, v_orV, v_iteM, v_nilL, v_consL, v_tupM, v_lstM, v_callM, v_negM, v_ixM, v_lookV, v_vixM, v_vvxM, v_scal1, v_noE, v_someE, v_sliceM, v_revM, v_isiM, v_skipM, v_seqM, v_retM, v_dropM, v_ifM, v_putV, v_setM, v_puts0, v_puts1, v_parM, v_bindN, v_bindT, v_asgM, v_forM, v_valM, v_rng1M, v_rng2M, v_zipM, v_setKM, v_mutN, v_mutK, v_dispM, v_nilA, v_oA, v_bA, cmp_ne, cmp_eq, cmp_lt, cmp_gt, cmp_le, cmp_ge, bin_add, bin_sub, bin_mul, bin_mod, bin_div, O.share, truF, List.getElem?_cons_zero, List.getElem?_cons_succ, v_callF, takeA, backA, startE, hp, h, low, h3, lim, h4, hb]
end La
end
section
namespace La
open Mp
/-! ### the law's own lowest terms -/
abbrev lT : M Bool := cmpM (cmpF .Gt) (getV 3) (Mp.ret (.int 0))
abbrev lB : M Fl := parM [2, 3] (consL (own (getV 3)) (consL (Mp.bin (binF .Mod) (shr (callM intF (consL (getV 2) nilL))) (getV 3)) (nilL)))
theorem lcd_one (v0 v1 : Option O) (n a b : Nat) (hb : b ≠ 0) : whileM (n + 1) lT lB [v0, v1, some (.sh (.int a)), some (.sh (.int b))] = whileM n lT lB [v0, v1, some (.sh (.int b)), some (.sh (.int (a % b : Nat)))] := by
  have h1 : (b : Int) ≠ 0 := by omega
  have h2 : (0 : Int) < b := by omega
  rw [v_while]
  simp [v_bnd, v_ret, v_lift, v_bad, v_shr, v_own, v_getV, v_bin, v_cmpM, v_ofB, v_tru, v_notM, v_andM, v_orM, v_andV, v_orV, v_iteM, v_nilL, v_consL, v_tupM, v_lstM, v_callM, v_negM, v_ixM, v_lookV, v_vixM, v_vvxM, v_scal1, v_noE, v_someE, v_sliceM, v_revM, v_isiM, v_skipM, v_seqM, v_retM, v_dropM, v_ifM, v_putV, v_setM, v_puts0, v_puts1, v_parM, v_bindN, v_bindT, v_asgM, v_forM, v_valM, v_rng1M, v_rng2M, v_zipM, v_setKM, v_mutN, v_mutK, v_dispM, v_nilA, v_oA, v_bA, cmp_ne, cmp_eq, cmp_lt, cmp_gt, cmp_le, cmp_ge, bin_add, bin_sub, bin_mul, bin_mod, bin_div, O.share, truF, List.getElem?_cons_zero, List.getElem?_cons_succ, intF, h1, h2, hb, Int.fmod_eq_emod_of_nonneg, Nat.pos_of_ne_zero hb]
theorem lcd_end (v0 v1 : Option O) (n a : Nat) : whileM (n + 1) lT lB [v0, v1, some (.sh (.int a)), some (.sh (.int 0))] = (.ok .nx, [v0, v1, some (.sh (.int a)), some (.sh (.int 0))]) := by
  rw [v_while]
  simp [v_bnd, v_ret, v_lift, v_bad, v_shr, v_own, v_getV, v_bin, v_cmpM, v_ofB, v_tru, v_notM, v_andM, v_orM, v_andV, v_orV, v_iteM, v_nilL, v_consL, v_tupM, v_lstM, v_callM, v_negM, v_ixM, v_lookV, v_vixM, v_vvxM, v_scal1, v_noE, v_someE, v_sliceM, v_revM, v_isiM, v_skipM, v_seqM, v_retM, v_dropM, v_ifM, v_putV, v_setM, v_puts0, v_puts1, v_parM, v_bindN, v_bindT, v_asgM, v_forM, v_valM, v_rng1M, v_rng2M, v_zipM, v_setKM, v_mutN, v_mutK, v_dispM, v_nilA, v_oA, v_bA, cmp_ne, cmp_eq, cmp_lt, cmp_gt, cmp_le, cmp_ge, bin_add, bin_sub, bin_mul, bin_mod, bin_div, O.share, truF, List.getElem?_cons_zero, List.getElem?_cons_succ]
theorem lcd_loop (v0 v1 : Option O) : ∀ (k a b n : Nat), b < 2 ^ k → 2 * k + 1 ≤ n → whileM n lT lB [v0, v1, some (.sh (.int a)), some (.sh (.int b))] = (.ok .nx, [v0, v1, some (.sh (.int (Nat.gcd a b : Nat))), some (.sh (.int 0))])
  | 0, a, b, n, hb, hn => by
    obtain ⟨m, rfl⟩ : ∃ m, n = m + 1 := ⟨n - 1, by omega⟩
    obtain rfl : b = 0 := by simp at hb; omega
    rw [Nat.gcd_zero_right]
    exact lcd_end v0 v1 m a
  | k + 1, a, b, n, hb, hn => by
    obtain ⟨m, rfl⟩ : ∃ m, n = m + 1 := ⟨n - 1, by omega⟩
    by_cases h0 : b = 0
    · subst h0
      rw [Nat.gcd_zero_right]
      exact lcd_end v0 v1 m a
    · rw [lcd_one v0 v1 m a b h0]
      obtain ⟨m, rfl⟩ : ∃ j, m = j + 1 := ⟨m - 1, by omega⟩
      have e1 : Nat.gcd a b = Nat.gcd b (a % b) := by rw [Nat.gcd_comm a b, Nat.gcd_rec b a, Nat.gcd_comm]
      rw [e1]
      by_cases h1 : a % b = 0
      · rw [h1, Nat.gcd_zero_right]
        exact lcd_end v0 v1 m b
      · rw [lcd_one v0 v1 m b (a % b) h1]
        have e2 : Nat.gcd b (a % b) = Nat.gcd (a % b) (b % (a % b)) := by rw [Nat.gcd_comm b, Nat.gcd_rec (a % b) b, Nat.gcd_comm]
        rw [e2]
        exact lcd_loop v0 v1 k (a % b) (b % (a % b)) m (half_mod h1 (Nat.mod_lt _ (by omega)) hb) (by omega)
theorem b9_ok {FU : Nat} (hF : 18001 ≤ FU) (a b : Int) (hb : b ≠ 0) (hs : Small b) : ∃ e, b_9 FU [some (.sh (.int a)), some (.sh (.int b)), none, none] = (.ok (.rt (.sh (.tup [.int (low a b).1, .int (low a b).2]))), e) := by
  have h := lcd_loop (some (.sh (.int a))) (some (.sh (.int b))) 9000 a.natAbs b.natAbs FU hs hF
  have h1 := sgd_ne (a := a) hb
  have h2 := sgd_log (a := a) hb hs
  unfold b_9
  by_cases hp : 0 < b
  · have h3 : sgd a b = (Nat.gcd a.natAbs b.natAbs : Nat) := by
      unfold sgd
      rw [if_pos hp]
    rw [h3] at h1 h2
    simp only [Int.natAbs_natCast] at h2
    simp [v_bnd, v_ret, v_lift, v_bad, v_shr, v_own, v_getV, v_bin, v_cmpM, v_ofB, v_tru, v_notM, v_andM, v_orM, v_andV, v_orV, v_iteM, v_nilL, v_consL, v_tupM, v_lstM, v_callM, v_negM, v_ixM, v_lookV, v_vixM, v_vvxM, v_scal1, v_noE, v_someE, v_sliceM, v_revM, v_isiM, v_skipM, v_seqM, v_retM, v_dropM, v_ifM, v_putV, v_setM, v_puts0, v_puts1, v_parM, v_bindN, v_bindT, v_asgM, v_forM, v_valM, v_rng1M, v_rng2M, v_zipM, v_setKM, v_mutN, v_mutK, v_dispM, v_nilA, v_oA, v_bA, cmp_ne, cmp_eq, cmp_lt, cmp_gt, cmp_le, cmp_ge, bin_add, bin_sub, bin_mul, bin_mod, bin_div, O.share, truF, List.getElem?_cons_zero, List.getElem?_cons_succ, absF, abs_nat, hp, h, low, h3, lim, Int.natAbs_natCast, h2, hb]
  · have h3 : sgd a b = 0 - (Nat.gcd a.natAbs b.natAbs : Nat) := by
      unfold sgd
      rw [if_neg hp]
    rw [h3] at h1 h2
    have h4 : (Nat.gcd a.natAbs b.natAbs).log2 < 9000 := by
      have h5 : (0 - ((Nat.gcd a.natAbs b.natAbs : Nat) : Int)).natAbs = Nat.gcd a.natAbs b.natAbs := by omega
      rwa [h5] at h2
    simp [v_bnd, v_ret, v_lift, v_bad, v_shr, v_own, v_getV, v_bin, v_cmpM, v_ofB, v_tru, v_notM, v_andM, v_orM, v_andV, v_orV, v_iteM, v_nilL, v_consL, v_tupM, v_lstM, v_callM, v_negM, v_ixM, v_lookV, v_vixM, v_vvxM, v_scal1, v_noE, v_someE, v_sliceM, v_revM, v_isiM, v_skipM, v_seqM, v_retM, v_dropM, v_ifM, v_putV, v_setM, v_puts0, v_puts1, v_parM, v_bindN, v_bindT, v_asgM, v_forM, v_valM, v_rng1M, v_rng2M, v_zipM, v_setKM, v_mutN, v_mutK, v_dispM, v_nilA, v_oA, v_bA, cmp_ne, cmp_eq, cmp_lt, cmp_gt, cmp_le, cmp_ge, bin_add, bin_sub, bin_mul, bin_mod, bin_div, O.share, truF, List.getElem?_cons_zero, List.getElem?_cons_succ, absF, abs_nat, hp, h, low, h3, lim, h4, hb]
/-! ### sums, products -/
abbrev fr (a b : Int) : D := .tup [.int a, .int b]
theorem at0 {a b : Int} : itemO (.sh (fr a b)) (.int 0) = some (.sh (.int a)) := rfl
theorem at1 {a b : Int} : itemO (.sh (fr a b)) (.int 1) = some (.sh (.int b)) := rfl
theorem b3_ok {FU : Nat} (hF : 18001 ≤ FU) (a b c d : Int) (ha : Small a) (hb : Small b) (hc : Small c) (hd : Small d) (hbd : b * d ≠ 0) (hs : Small (b * d)) : ∃ e, b_3 FU [some (.sh (fr a b)), some (.sh (fr c d))] = (.ok (.rt (.sh (fr (low (a * d + c * b) (b * d)).1 (low (a * d + c * b) (b * d)).2))), e) := by
  obtain ⟨e, h⟩ := b2_ok hF (a * d + c * b) (b * d) hbd hs
  unfold b_3
  simp [v_bnd, v_ret, v_lift, v_bad, v_shr, v_own, v_getV, v_bin, v_cmpM, v_ofB, v_tru, v_notM, v_andM, v_orM, v_andV, v_orV, v_iteM, v_nilL, v_consL, v_tupM, v_lstM, v_callM, v_negM, v_ixM, v_lookV, v_vixM, v_vvxM, v_scal1, v_noE, v_someE, v_sliceM, v_revM, v_isiM, v_skipM, v_seqM, v_retM, v_dropM, v_ifM, v_putV, v_setM, v_puts0, v_puts1, v_parM, v_bindN, v_bindT, v_asgM, v_forM, v_valM, v_rng1M, v_rng2M, v_zipM, v_setKM, v_mutN, v_mutK, v_dispM, v_nilA, v_oA, v_bA, cmp_ne, cmp_eq, cmp_lt, cmp_gt, cmp_le, cmp_ge, bin_add, bin_sub, bin_mul, bin_mod, bin_div, O.share, truF, List.getElem?_cons_zero, List.getElem?_cons_succ, v_callF, takeA, backA, startE, at0, at1, mul_small, ha, hb, hc, hd, h]
theorem b4_ok {FU : Nat} (hF : 18001 ≤ FU) (a b c d : Int) (ha : Small a) (hb : Small b) (hc : Small c) (hd : Small d) (hbd : b * d ≠ 0) (hs : Small (b * d)) : ∃ e, b_4 FU [some (.sh (fr a b)), some (.sh (fr c d))] = (.ok (.rt (.sh (fr (low (a * c) (b * d)).1 (low (a * c) (b * d)).2))), e) := by
  obtain ⟨e, h⟩ := b2_ok hF (a * c) (b * d) hbd hs
  unfold b_4
  simp [v_bnd, v_ret, v_lift, v_bad, v_shr, v_own, v_getV, v_bin, v_cmpM, v_ofB, v_tru, v_notM, v_andM, v_orM, v_andV, v_orV, v_iteM, v_nilL, v_consL, v_tupM, v_lstM, v_callM, v_negM, v_ixM, v_lookV, v_vixM, v_vvxM, v_scal1, v_noE, v_someE, v_sliceM, v_revM, v_isiM, v_skipM, v_seqM, v_retM, v_dropM, v_ifM, v_putV, v_setM, v_puts0, v_puts1, v_parM, v_bindN, v_bindT, v_asgM, v_forM, v_valM, v_rng1M, v_rng2M, v_zipM, v_setKM, v_mutN, v_mutK, v_dispM, v_nilA, v_oA, v_bA, cmp_ne, cmp_eq, cmp_lt, cmp_gt, cmp_le, cmp_ge, bin_add, bin_sub, bin_mul, bin_mod, bin_div, O.share, truF, List.getElem?_cons_zero, List.getElem?_cons_succ, v_callF, takeA, backA, startE, at0, at1, mul_small, ha, hb, hc, hd, h]
end La
end
section
namespace La
open Mp
/-! ### lowest terms: what is known of them -/
theorem sgd_dvd_l (a b : Int) : sgd a b ∣ a := by
  have h : (((Nat.gcd a.natAbs b.natAbs : Nat) : Int)) ∣ a := Int.ofNat_dvd_left.mpr (Nat.gcd_dvd_left ..)
  unfold sgd
  split
  · exact h
  · rw [Int.zero_sub]
    exact Int.neg_dvd.mpr h
theorem sgd_dvd_r (a b : Int) : sgd a b ∣ b := by
  have h : (((Nat.gcd a.natAbs b.natAbs : Nat) : Int)) ∣ b := Int.ofNat_dvd_left.mpr (Nat.gcd_dvd_right ..)
  unfold sgd
  split
  · exact h
  · rw [Int.zero_sub]
    exact Int.neg_dvd.mpr h
theorem low_l (a b : Int) : a = sgd a b * (low a b).1 := by
  unfold low
  rw [Int.fdiv_eq_ediv_of_dvd (sgd_dvd_l a b), Int.mul_ediv_cancel' (sgd_dvd_l a b)]
theorem low_r (a b : Int) : b = sgd a b * (low a b).2 := by
  unfold low
  rw [Int.fdiv_eq_ediv_of_dvd (sgd_dvd_r a b), Int.mul_ediv_cancel' (sgd_dvd_r a b)]
theorem low_pos {a b : Int} (hb : b ≠ 0) : 0 < (low a b).2 := by
  have h := low_r a b
  have hg := gcd_pos' (a := a) hb
  by_cases hp : 0 < b
  · have h3 : 0 < sgd a b := by
      unfold sgd
      rw [if_pos hp]
      omega
    exact Int.pos_of_mul_pos_right (by rw [← h]; exact hp) h3
  · have h3 : sgd a b < 0 := by
      unfold sgd
      rw [if_neg hp]
      omega
    have h4 : b < 0 := by omega
    have h5 : 0 < (-sgd a b) * (low a b).2 := by
      rw [Int.neg_mul, ← h]
      omega
    exact Int.pos_of_mul_pos_right h5 (by omega)
theorem abs_le_mul {s x : Int} (hs : s ≠ 0) : x.natAbs ≤ (s * x).natAbs := by
  rw [Int.natAbs_mul]
  exact Nat.le_mul_of_pos_left _ (by omega)
theorem low_le_l {a b : Int} (hb : b ≠ 0) : (low a b).1.natAbs ≤ a.natAbs := by
  have h := abs_le_mul (x := (low a b).1) (sgd_ne (a := a) hb)
  rwa [← low_l] at h
theorem low_le_r {a b : Int} (hb : b ≠ 0) : (low a b).2.natAbs ≤ b.natAbs := by
  have h := abs_le_mul (x := (low a b).2) (sgd_ne (a := a) hb)
  rwa [← low_r] at h
theorem sgd_scale {a b c : Int} (hb : b ≠ 0) (hc : c ≠ 0) : sgd (a * c) (b * c) = sgd a b * c := by
  have hg : Nat.gcd (a * c).natAbs (b * c).natAbs = Nat.gcd a.natAbs b.natAbs * c.natAbs := by
    rw [Int.natAbs_mul, Int.natAbs_mul, Nat.gcd_mul_right]
  unfold sgd
  rw [hg, Int.natCast_mul]
  by_cases hp : 0 < b <;> by_cases hq : 0 < c
  · rw [if_pos (Int.mul_pos hp hq), if_pos hp, Int.natAbs_of_nonneg (by omega)]
  · have h1 : ¬ 0 < b * c := by
      have : b * c < 0 := Int.mul_neg_of_pos_of_neg hp (by omega)
      omega
    rw [if_neg h1, if_pos hp, Int.ofNat_natAbs_of_nonpos (by omega), Int.mul_neg]
    omega
  · have h1 : ¬ 0 < b * c := by
      have : b * c < 0 := Int.mul_neg_of_neg_of_pos (by omega) hq
      omega
    rw [if_neg h1, if_neg hp, Int.natAbs_of_nonneg (by omega), Int.zero_sub, Int.zero_sub, Int.neg_mul]
  · have h1 : 0 < b * c := Int.mul_pos_of_neg_of_neg (by omega) (by omega)
    rw [if_pos h1, if_neg hp, Int.ofNat_natAbs_of_nonpos (by omega), Int.zero_sub, Int.neg_mul, Int.mul_neg]
theorem low_scale {a b c : Int} (hb : b ≠ 0) (hc : c ≠ 0) : low (a * c) (b * c) = low a b := by
  have h0 := sgd_ne (a := a) hb
  have h1 : sgd a b * c ≠ 0 := Int.mul_ne_zero h0 hc
  have e1 : (low (a * c) (b * c)).1 = (low a b).1 := by
    have h := low_l (a * c) (b * c)
    rw [sgd_scale hb hc] at h
    have h2 := low_l a b
    refine Int.eq_of_mul_eq_mul_left h1 ?_
    rw [← h, Int.mul_right_comm, ← h2]
  have e2 : (low (a * c) (b * c)).2 = (low a b).2 := by
    have h := low_r (a * c) (b * c)
    rw [sgd_scale hb hc] at h
    have h2 := low_r a b
    refine Int.eq_of_mul_eq_mul_left h1 ?_
    rw [← h, Int.mul_right_comm, ← h2]
  exact Prod.ext e1 e2
/-- a sum, the second one in lowest terms ahead -/
theorem low_sum {p q u v : Int} (hq : q ≠ 0) (hv : v ≠ 0) : low (p * (low u v).2 + (low u v).1 * q) (q * (low u v).2) = low (p * v + u * q) (q * v) := by
  have h0 := sgd_ne (a := u) hv
  have hl := low_l u v
  have hr := low_r u v
  have hp := low_pos (a := u) hv
  have e1 : p * v + u * q = (p * (low u v).2 + (low u v).1 * q) * sgd u v := by
    rw [Int.add_mul, Int.mul_assoc p, Int.mul_comm (low u v).2, ← hr, Int.mul_right_comm, Int.mul_comm (low u v).1, ← hl]
  have e2 : q * v = (q * (low u v).2) * sgd u v := by
    rw [Int.mul_assoc q, Int.mul_comm (low u v).2, ← hr]
  rw [e1, e2]
  exact (low_scale (Int.mul_ne_zero hq (by omega)) h0).symm
end La
end
section
namespace La
open Mp
/-! ### what is a fraction -/
def isI : D → Bool
  | .int _ => true
  | _ => false
/-- a value of the plain kinds -/
def plain (d : D) : Bool := (tyD d).isSome
theorem isi_int {d : D} (h : plain d = true) : isiF ["int"] d = some (match d with
  | .int _ => true
  | .bl _ => true
  | _ => false) := by
  cases d <;> simp [plain, tyD, isiF, clsNames, subT] at h ⊢
theorem isi_bool {d : D} (h : plain d = true) : isiF ["bool"] d = some (match d with
  | .bl _ => true
  | _ => false) := by
  cases d <;> simp [plain, tyD, isiF, clsNames, subT] at h ⊢
theorem isi_tup {d : D} (h : plain d = true) : isiF ["tuple"] d = some (match d with
  | .tup _ => true
  | _ => false) := by
  cases d <;> simp [plain, tyD, isiF, clsNames, subT] at h ⊢
theorem b0_ok {FU : Nat} (d : D) (h : plain d = true) : ∃ e, b_0 FU [some (.sh d)] = (.ok (.rt (.sh (.bl (isI d)))), e) := by
  have h1 := isi_int h
  have h2 := isi_bool h
  unfold b_0
  cases d <;> simp [plain, tyD] at h <;> simp [isI, v_bnd, v_ret, v_lift, v_bad, v_shr, v_own, v_getV, v_bin, v_cmpM, v_ofB, v_tru, v_notM, v_andM, v_orM, v_andV, v_orV, v_iteM, v_nilL, v_consL, v_tupM, v_lstM, v_callM, v_negM, v_ixM, v_lookV, v_vixM, v_vvxM, v_scal1, v_noE, v_someE, v_sliceM, v_revM, v_isiM, v_skipM, v_seqM, v_retM, v_dropM, v_ifM, v_putV, v_setM, v_puts0, v_puts1, v_parM, v_bindN, v_bindT, v_asgM, v_forM, v_valM, v_rng1M, v_rng2M, v_zipM, v_setKM, v_mutN, v_mutK, v_dispM, v_nilA, v_oA, v_bA, cmp_ne, cmp_eq, cmp_lt, cmp_gt, cmp_le, cmp_ge, bin_add, bin_sub, bin_mul, bin_mod, bin_div, O.share, truF, List.getElem?_cons_zero, List.getElem?_cons_succ, h1, h2]
/-- both say the same -/
def Agree (FU : Nat) (d : D) : Prop := ∃ x e1 e2, b_5 FU [some (.sh d)] = (.ok (.rt (.sh (.bl x))), e1) ∧ b_13 FU [some (.sh d), none] = (.ok (.rt (.sh (.bl x))), e2)
def isTup : D → Bool
  | .tup _ => true
  | _ => false
theorem agree_other {FU : Nat} (d : D) (h : plain d = true) (ht : isTup d = false) : Agree FU d := by
  have h1 : isiF ["tuple"] d = some false := by
    rw [isi_tup h]
    cases d <;> simp [isTup] at ht ⊢
  refine ⟨false, [some (.sh d)], [some (.sh d), none], ?_, ?_⟩
  · unfold b_5
    simp [v_bnd, v_ret, v_lift, v_bad, v_shr, v_own, v_getV, v_bin, v_cmpM, v_ofB, v_tru, v_notM, v_andM, v_orM, v_andV, v_orV, v_iteM, v_nilL, v_consL, v_tupM, v_lstM, v_callM, v_negM, v_ixM, v_lookV, v_vixM, v_vvxM, v_scal1, v_noE, v_someE, v_sliceM, v_revM, v_isiM, v_skipM, v_seqM, v_retM, v_dropM, v_ifM, v_putV, v_setM, v_puts0, v_puts1, v_parM, v_bindN, v_bindT, v_asgM, v_forM, v_valM, v_rng1M, v_rng2M, v_zipM, v_setKM, v_mutN, v_mutK, v_dispM, v_nilA, v_oA, v_bA, cmp_ne, cmp_eq, cmp_lt, cmp_gt, cmp_le, cmp_ge, bin_add, bin_sub, bin_mul, bin_mod, bin_div, O.share, truF, List.getElem?_cons_zero, List.getElem?_cons_succ, h1]
  · unfold b_13
    simp [v_bnd, v_ret, v_lift, v_bad, v_shr, v_own, v_getV, v_bin, v_cmpM, v_ofB, v_tru, v_notM, v_andM, v_orM, v_andV, v_orV, v_iteM, v_nilL, v_consL, v_tupM, v_lstM, v_callM, v_negM, v_ixM, v_lookV, v_vixM, v_vvxM, v_scal1, v_noE, v_someE, v_sliceM, v_revM, v_isiM, v_skipM, v_seqM, v_retM, v_dropM, v_ifM, v_putV, v_setM, v_puts0, v_puts1, v_parM, v_bindN, v_bindT, v_asgM, v_forM, v_valM, v_rng1M, v_rng2M, v_zipM, v_setKM, v_mutN, v_mutK, v_dispM, v_nilA, v_oA, v_bA, cmp_ne, cmp_eq, cmp_lt, cmp_gt, cmp_le, cmp_ge, bin_add, bin_sub, bin_mul, bin_mod, bin_div, O.share, truF, List.getElem?_cons_zero, List.getElem?_cons_succ, h1]
theorem isi_t (xs : List D) : isiF ["tuple"] (.tup xs) = some true := isi_tup rfl
theorem len_t (xs : List D) : lenS (.tup xs) = some (.int xs.length) := rfl
theorem agree_len {FU : Nat} (xs : List D) (h : xs.length ≠ 2) : Agree FU (.tup xs) := by
  have h2 : ¬ (xs.length : Int) = 2 := by omega
  refine ⟨false, [some (.sh (.tup xs))], [some (.sh (.tup xs)), none], ?_, ?_⟩
  · unfold b_5
    simp [v_bnd, v_ret, v_lift, v_bad, v_shr, v_own, v_getV, v_bin, v_cmpM, v_ofB, v_tru, v_notM, v_andM, v_orM, v_andV, v_orV, v_iteM, v_nilL, v_consL, v_tupM, v_lstM, v_callM, v_negM, v_ixM, v_lookV, v_vixM, v_vvxM, v_scal1, v_noE, v_someE, v_sliceM, v_revM, v_isiM, v_skipM, v_seqM, v_retM, v_dropM, v_ifM, v_putV, v_setM, v_puts0, v_puts1, v_parM, v_bindN, v_bindT, v_asgM, v_forM, v_valM, v_rng1M, v_rng2M, v_zipM, v_setKM, v_mutN, v_mutK, v_dispM, v_nilA, v_oA, v_bA, cmp_ne, cmp_eq, cmp_lt, cmp_gt, cmp_le, cmp_ge, bin_add, bin_sub, bin_mul, bin_mod, bin_div, O.share, truF, List.getElem?_cons_zero, List.getElem?_cons_succ, isi_t, len_t, h2]
  · unfold b_13
    simp [v_bnd, v_ret, v_lift, v_bad, v_shr, v_own, v_getV, v_bin, v_cmpM, v_ofB, v_tru, v_notM, v_andM, v_orM, v_andV, v_orV, v_iteM, v_nilL, v_consL, v_tupM, v_lstM, v_callM, v_negM, v_ixM, v_lookV, v_vixM, v_vvxM, v_scal1, v_noE, v_someE, v_sliceM, v_revM, v_isiM, v_skipM, v_seqM, v_retM, v_dropM, v_ifM, v_putV, v_setM, v_puts0, v_puts1, v_parM, v_bindN, v_bindT, v_asgM, v_forM, v_valM, v_rng1M, v_rng2M, v_zipM, v_setKM, v_mutN, v_mutK, v_dispM, v_nilA, v_oA, v_bA, cmp_ne, cmp_eq, cmp_lt, cmp_gt, cmp_le, cmp_ge, bin_add, bin_sub, bin_mul, bin_mod, bin_div, O.share, truF, List.getElem?_cons_zero, List.getElem?_cons_succ, isi_t, len_t, h2]
theorem pr0 {x y : D} : itemO (.sh (.tup [x, y])) (.int 0) = some (.sh x) := rfl
theorem pr1 {x y : D} : itemO (.sh (.tup [x, y])) (.int 1) = some (.sh y) := rfl
abbrev cT : M Bool := orM (tru (isiM ["bool"] (getV 1))) (Mp.notM (tru (isiM ["int"] (getV 1))))
def odd1 (d : D) : Option O := if isI d then none else some (.sh d)
theorem comp_ok (xs : List D) (h : ∀ d ∈ xs, plain d = true) (hl : xs.length ≤ lim) : lcM [1] (.nm 1) cT (own (getV 1)) (valM (getV 0)) [some (.sh (.tup xs)), none] = (.ok (.lst (xs.filterMap odd1)), [some (.sh (.tup xs)), none]) := by
  refine v_lcM (ds := xs) (e1 := [some (.sh (.tup xs)), none]) (e2 := [some (.sh (.tup xs)), none]) (e3 := [some (.sh (.tup xs)), none]) (by simp [v_bnd, v_ret, v_lift, v_bad, v_shr, v_own, v_getV, v_bin, v_cmpM, v_ofB, v_tru, v_notM, v_andM, v_orM, v_andV, v_orV, v_iteM, v_nilL, v_consL, v_tupM, v_lstM, v_callM, v_negM, v_ixM, v_lookV, v_vixM, v_vvxM, v_scal1, v_noE, v_someE, v_sliceM, v_revM, v_isiM, v_skipM, v_seqM, v_retM, v_dropM, v_ifM, v_putV, v_setM, v_puts0, v_puts1, v_parM, v_bindN, v_bindT, v_asgM, v_forM, v_valM, v_rng1M, v_rng2M, v_zipM, v_setKM, v_mutN, v_mutK, v_dispM, v_nilA, v_oA, v_bA, cmp_ne, cmp_eq, cmp_lt, cmp_gt, cmp_le, cmp_ge, bin_add, bin_sub, bin_mul, bin_mod, bin_div, O.share, truF, List.getElem?_cons_zero, List.getElem?_cons_succ, itemsD]) rfl hl ?_
  refine lcL_map _ _ xs fun d hd => ?_
  have hp := h d hd
  refine ⟨[some (.sh (.tup xs)), some (.sh d)], by simp [v_bnd, v_ret, v_lift, v_bad, v_shr, v_own, v_getV, v_bin, v_cmpM, v_ofB, v_tru, v_notM, v_andM, v_orM, v_andV, v_orV, v_iteM, v_nilL, v_consL, v_tupM, v_lstM, v_callM, v_negM, v_ixM, v_lookV, v_vixM, v_vvxM, v_scal1, v_noE, v_someE, v_sliceM, v_revM, v_isiM, v_skipM, v_seqM, v_retM, v_dropM, v_ifM, v_putV, v_setM, v_puts0, v_puts1, v_parM, v_bindN, v_bindT, v_asgM, v_forM, v_valM, v_rng1M, v_rng2M, v_zipM, v_setKM, v_mutN, v_mutK, v_dispM, v_nilA, v_oA, v_bA, cmp_ne, cmp_eq, cmp_lt, cmp_gt, cmp_le, cmp_ge, bin_add, bin_sub, bin_mul, bin_mod, bin_div, O.share, truF, List.getElem?_cons_zero, List.getElem?_cons_succ, wipeE], !isI d, [some (.sh (.tup xs)), some (.sh d)], ?_, ?_⟩
  · have h1 := isi_int hp
    have h2 := isi_bool hp
    clear hd
    cases d <;> simp [plain, tyD] at hp <;> simp [isI, v_bnd, v_ret, v_lift, v_bad, v_shr, v_own, v_getV, v_bin, v_cmpM, v_ofB, v_tru, v_notM, v_andM, v_orM, v_andV, v_orV, v_iteM, v_nilL, v_consL, v_tupM, v_lstM, v_callM, v_negM, v_ixM, v_lookV, v_vixM, v_vvxM, v_scal1, v_noE, v_someE, v_sliceM, v_revM, v_isiM, v_skipM, v_seqM, v_retM, v_dropM, v_ifM, v_putV, v_setM, v_puts0, v_puts1, v_parM, v_bindN, v_bindT, v_asgM, v_forM, v_valM, v_rng1M, v_rng2M, v_zipM, v_setKM, v_mutN, v_mutK, v_dispM, v_nilA, v_oA, v_bA, cmp_ne, cmp_eq, cmp_lt, cmp_gt, cmp_le, cmp_ge, bin_add, bin_sub, bin_mul, bin_mod, bin_div, O.share, truF, List.getElem?_cons_zero, List.getElem?_cons_succ, h1, h2]
  · cases hi : isI d with
    | true => exact .inl ⟨rfl, by simp [odd1, hi], rfl⟩
    | false => exact .inr ⟨rfl, .sh d, [some (.sh (.tup xs)), some (.sh d)], by simp [v_bnd, v_ret, v_lift, v_bad, v_shr, v_own, v_getV, v_bin, v_cmpM, v_ofB, v_tru, v_notM, v_andM, v_orM, v_andV, v_orV, v_iteM, v_nilL, v_consL, v_tupM, v_lstM, v_callM, v_negM, v_ixM, v_lookV, v_vixM, v_vvxM, v_scal1, v_noE, v_someE, v_sliceM, v_revM, v_isiM, v_skipM, v_seqM, v_retM, v_dropM, v_ifM, v_putV, v_setM, v_puts0, v_puts1, v_parM, v_bindN, v_bindT, v_asgM, v_forM, v_valM, v_rng1M, v_rng2M, v_zipM, v_setKM, v_mutN, v_mutK, v_dispM, v_nilA, v_oA, v_bA, cmp_ne, cmp_eq, cmp_lt, cmp_gt, cmp_le, cmp_ge, bin_add, bin_sub, bin_mul, bin_mod, bin_div, O.share, truF, List.getElem?_cons_zero, List.getElem?_cons_succ], by simp [odd1, hi], rfl⟩
/-- the fractions' test of two integers -/
def frB (a b : Int) : Bool := decide (1 ≤ b) && decide (Nat.gcd a.natAbs b.natAbs = 1)
theorem low_same {a b : Int} (hb : 1 ≤ b) : low a b = (a, b) ↔ Nat.gcd a.natAbs b.natAbs = 1 := by
  have hs : sgd a b = (Nat.gcd a.natAbs b.natAbs : Nat) := by
    unfold sgd
    rw [if_pos (by omega)]
  constructor
  · intro h
    have h1 := low_r a b
    rw [h, hs] at h1
    simp only at h1
    have h2 : ((Nat.gcd a.natAbs b.natAbs : Nat) : Int) * b = 1 * b := by omega
    have h3 := Int.eq_of_mul_eq_mul_right (by omega) h2
    omega
  · intro h
    have e1 := low_l a b
    have e2 := low_r a b
    rw [hs, h] at e1 e2
    exact Prod.ext (by omega) (by omega)
theorem deq_ii {a b : Int} : deq (.int a) (.int b) = decide (a = b) := by
  simp only [deq]
  rfl
theorem eq_fr {a b c d : Int} : cmpF .Eq (fr a b) (fr c d) = some (decide (a = c) && decide (b = d)) := by
  simp [cmpF, eqF, okD, okDs, deq, deqs]
  rfl
theorem ne_fr {a b c d : Int} : cmpF .NotEq (fr a b) (fr c d) = some (!(decide (a = c) && decide (b = d))) := by
  simp [cmpF, eqF, okD, okDs, deq, deqs, notB]
  rfl
theorem ne_nil (x : D) (xs : List D) : cmpF .NotEq (.lst (x :: xs)) (.lst []) = some true := by
  simp [cmpF, eqF, okD, okDs, notB, deq, deqs]
theorem eq_nil : cmpF .NotEq (.lst []) (.lst []) = some false := by
  simp [cmpF, eqF, okD, okDs, notB, deq, deqs]
theorem agree_pair {FU : Nat} (hF : 18001 ≤ FU) (x y : D) (hx : plain x = true) (hy : plain y = true) (hs : ∀ a b, x = .int a → y = .int b → Small b) : Agree FU (.tup [x, y]) := by
  have hc := comp_ok [x, y] (by
    intro d hd
    simp at hd
    rcases hd with rfl | rfl <;> assumption) (by simp [lim])
  obtain ⟨ex, hx0⟩ := b0_ok (FU := FU) x hx
  obtain ⟨ey, hy0⟩ := b0_ok (FU := FU) y hy
  by_cases hi : isI x = true ∧ isI y = true
  case neg =>
    refine ⟨false, [some (.sh (.tup [x, y]))], [some (.sh (.tup [x, y])), none], ?_, ?_⟩
    · unfold b_5
      cases h1 : isI x with
      | false => simp [v_bnd, v_ret, v_lift, v_bad, v_shr, v_own, v_getV, v_bin, v_cmpM, v_ofB, v_tru, v_notM, v_andM, v_orM, v_andV, v_orV, v_iteM, v_nilL, v_consL, v_tupM, v_lstM, v_callM, v_negM, v_ixM, v_lookV, v_vixM, v_vvxM, v_scal1, v_noE, v_someE, v_sliceM, v_revM, v_isiM, v_skipM, v_seqM, v_retM, v_dropM, v_ifM, v_putV, v_setM, v_puts0, v_puts1, v_parM, v_bindN, v_bindT, v_asgM, v_forM, v_valM, v_rng1M, v_rng2M, v_zipM, v_setKM, v_mutN, v_mutK, v_dispM, v_nilA, v_oA, v_bA, cmp_ne, cmp_eq, cmp_lt, cmp_gt, cmp_le, cmp_ge, bin_add, bin_sub, bin_mul, bin_mod, bin_div, O.share, truF, List.getElem?_cons_zero, List.getElem?_cons_succ, isi_t, len_t, v_callF, takeA, backA, startE, pr0, pr1, hx0, hy0, h1]
      | true =>
        have h2 : isI y = false := by
          cases h : isI y with
          | false => rfl
          | true => exact absurd ⟨h1, h⟩ hi
        simp [v_bnd, v_ret, v_lift, v_bad, v_shr, v_own, v_getV, v_bin, v_cmpM, v_ofB, v_tru, v_notM, v_andM, v_orM, v_andV, v_orV, v_iteM, v_nilL, v_consL, v_tupM, v_lstM, v_callM, v_negM, v_ixM, v_lookV, v_vixM, v_vvxM, v_scal1, v_noE, v_someE, v_sliceM, v_revM, v_isiM, v_skipM, v_seqM, v_retM, v_dropM, v_ifM, v_putV, v_setM, v_puts0, v_puts1, v_parM, v_bindN, v_bindT, v_asgM, v_forM, v_valM, v_rng1M, v_rng2M, v_zipM, v_setKM, v_mutN, v_mutK, v_dispM, v_nilA, v_oA, v_bA, cmp_ne, cmp_eq, cmp_lt, cmp_gt, cmp_le, cmp_ge, bin_add, bin_sub, bin_mul, bin_mod, bin_div, O.share, truF, List.getElem?_cons_zero, List.getElem?_cons_succ, isi_t, len_t, v_callF, takeA, backA, startE, pr0, pr1, hx0, hy0, h1, h2]
    · unfold b_13
      obtain ⟨o, os, ho⟩ : ∃ o os, O.shares ([x, y].filterMap odd1) = o :: os := by
        cases h1 : isI x with
        | false => exact ⟨x, O.shares ([y].filterMap odd1), by rw [List.filterMap_cons]; simp [odd1, h1, O.shares, O.share]⟩
        | true =>
          have h2 : isI y = false := by
            cases h : isI y with
            | false => rfl
            | true => exact absurd ⟨h1, h⟩ hi
          exact ⟨y, [], by simp [odd1, h1, h2, O.shares, O.share]⟩
      simp [v_bnd, v_ret, v_lift, v_bad, v_shr, v_own, v_getV, v_bin, v_cmpM, v_ofB, v_tru, v_notM, v_andM, v_orM, v_andV, v_orV, v_iteM, v_nilL, v_consL, v_tupM, v_lstM, v_callM, v_negM, v_ixM, v_lookV, v_vixM, v_vvxM, v_scal1, v_noE, v_someE, v_sliceM, v_revM, v_isiM, v_skipM, v_seqM, v_retM, v_dropM, v_ifM, v_putV, v_setM, v_puts0, v_puts1, v_parM, v_bindN, v_bindT, v_asgM, v_forM, v_valM, v_rng1M, v_rng2M, v_zipM, v_setKM, v_mutN, v_mutK, v_dispM, v_nilA, v_oA, v_bA, cmp_ne, cmp_eq, cmp_lt, cmp_gt, cmp_le, cmp_ge, bin_add, bin_sub, bin_mul, bin_mod, bin_div, O.share, truF, List.getElem?_cons_zero, List.getElem?_cons_succ, isi_t, len_t, hc, ho, lim, ne_nil, O.shares]
  case pos =>
    obtain ⟨a, rfl⟩ : ∃ a, x = .int a := by
      cases x <;> simp [isI] at hi
      exact ⟨_, rfl⟩
    obtain ⟨b, rfl⟩ : ∃ b, y = .int b := by
      cases y <;> simp [isI] at hi
      exact ⟨_, rfl⟩
    have sb := hs a b rfl rfl
    have h0 : [D.int a, D.int b].filterMap odd1 = [] := by simp [odd1, isI]
    rw [h0] at hc
    obtain ⟨e1, g1⟩ := b1_ok (FU := FU) (k := 9000) hF a b sb
    by_cases hb : 1 ≤ b
    · obtain ⟨e9, g9⟩ := b9_ok hF a b (by omega) sb
      have hl := low_same (a := a) hb
      refine ⟨decide (Nat.gcd a.natAbs b.natAbs = 1), [some (.sh (fr a b))], [some (.sh (fr a b)), none], ?_, ?_⟩
      · unfold b_5
        simp [v_bnd, v_ret, v_lift, v_bad, v_shr, v_own, v_getV, v_bin, v_cmpM, v_ofB, v_tru, v_notM, v_andM, v_orM, v_andV, v_orV, v_iteM, v_nilL, v_consL, v_tupM, v_lstM, v_callM, v_negM, v_ixM, v_lookV, v_vixM, v_vvxM, v_scal1, v_noE, v_someE, v_sliceM, v_revM, v_isiM, v_skipM, v_seqM, v_retM, v_dropM, v_ifM, v_putV, v_setM, v_puts0, v_puts1, v_parM, v_bindN, v_bindT, v_asgM, v_forM, v_valM, v_rng1M, v_rng2M, v_zipM, v_setKM, v_mutN, v_mutK, v_dispM, v_nilA, v_oA, v_bA, cmp_ne, cmp_eq, cmp_lt, cmp_gt, cmp_le, cmp_ge, bin_add, bin_sub, bin_mul, bin_mod, bin_div, O.share, truF, List.getElem?_cons_zero, List.getElem?_cons_succ, isi_t, len_t, v_callF, takeA, backA, startE, pr0, pr1, hx0, hy0, isI, g1, hb]
        omega
      · unfold b_13
        have e2 : (decide ((low a b).1 = a) && decide ((low a b).2 = b)) = decide (Nat.gcd a.natAbs b.natAbs = 1) := by
          rw [Bool.eq_iff_iff]
          simp only [Bool.and_eq_true, decide_eq_true_eq]
          rw [← hl]
          constructor
          · exact fun h => Prod.ext h.1 h.2
          · intro h
            rw [h]
            exact ⟨rfl, rfl⟩
        simp [v_bnd, v_ret, v_lift, v_bad, v_shr, v_own, v_getV, v_bin, v_cmpM, v_ofB, v_tru, v_notM, v_andM, v_orM, v_andV, v_orV, v_iteM, v_nilL, v_consL, v_tupM, v_lstM, v_callM, v_negM, v_ixM, v_lookV, v_vixM, v_vvxM, v_scal1, v_noE, v_someE, v_sliceM, v_revM, v_isiM, v_skipM, v_seqM, v_retM, v_dropM, v_ifM, v_putV, v_setM, v_puts0, v_puts1, v_parM, v_bindN, v_bindT, v_asgM, v_forM, v_valM, v_rng1M, v_rng2M, v_zipM, v_setKM, v_mutN, v_mutK, v_dispM, v_nilA, v_oA, v_bA, cmp_ne, cmp_eq, cmp_lt, cmp_gt, cmp_le, cmp_ge, bin_add, bin_sub, bin_mul, bin_mod, bin_div, O.share, truF, List.getElem?_cons_zero, List.getElem?_cons_succ, isi_t, len_t, v_callF, takeA, backA, startE, pr0, pr1, hc, lim, eq_nil, O.shares, hb, g9, eq_fr, e2]
    · refine ⟨false, [some (.sh (fr a b))], [some (.sh (fr a b)), none], ?_, ?_⟩
      · unfold b_5
        simp [v_bnd, v_ret, v_lift, v_bad, v_shr, v_own, v_getV, v_bin, v_cmpM, v_ofB, v_tru, v_notM, v_andM, v_orM, v_andV, v_orV, v_iteM, v_nilL, v_consL, v_tupM, v_lstM, v_callM, v_negM, v_ixM, v_lookV, v_vixM, v_vvxM, v_scal1, v_noE, v_someE, v_sliceM, v_revM, v_isiM, v_skipM, v_seqM, v_retM, v_dropM, v_ifM, v_putV, v_setM, v_puts0, v_puts1, v_parM, v_bindN, v_bindT, v_asgM, v_forM, v_valM, v_rng1M, v_rng2M, v_zipM, v_setKM, v_mutN, v_mutK, v_dispM, v_nilA, v_oA, v_bA, cmp_ne, cmp_eq, cmp_lt, cmp_gt, cmp_le, cmp_ge, bin_add, bin_sub, bin_mul, bin_mod, bin_div, O.share, truF, List.getElem?_cons_zero, List.getElem?_cons_succ, isi_t, len_t, v_callF, takeA, backA, startE, pr0, pr1, hx0, hy0, isI, hb]
      · unfold b_13
        simp [v_bnd, v_ret, v_lift, v_bad, v_shr, v_own, v_getV, v_bin, v_cmpM, v_ofB, v_tru, v_notM, v_andM, v_orM, v_andV, v_orV, v_iteM, v_nilL, v_consL, v_tupM, v_lstM, v_callM, v_negM, v_ixM, v_lookV, v_vixM, v_vvxM, v_scal1, v_noE, v_someE, v_sliceM, v_revM, v_isiM, v_skipM, v_seqM, v_retM, v_dropM, v_ifM, v_putV, v_setM, v_puts0, v_puts1, v_parM, v_bindN, v_bindT, v_asgM, v_forM, v_valM, v_rng1M, v_rng2M, v_zipM, v_setKM, v_mutN, v_mutK, v_dispM, v_nilA, v_oA, v_bA, cmp_ne, cmp_eq, cmp_lt, cmp_gt, cmp_le, cmp_ge, bin_add, bin_sub, bin_mul, bin_mod, bin_div, O.share, truF, List.getElem?_cons_zero, List.getElem?_cons_succ, isi_t, len_t, v_callF, takeA, backA, startE, pr0, pr1, hc, lim, eq_nil, O.shares, hb]
end La
end
section
namespace La
open Mp
/-! ### sums of rows -/
/-- bounds by powers -/
def P76 : Nat := 10 ^ 80
def W (k : Nat) : Nat := (2 * P76) ^ k
theorem W_succ (k : Nat) : W (k + 1) = W k * W 1 := by
  unfold W
  rw [Nat.pow_succ, Nat.pow_one]
theorem W_small {k : Nat} (hk : k ≤ 20) : W k < 2 ^ 9000 := by
  have h1 : W k ≤ W 20 := Nat.pow_le_pow_right (by decide) hk
  have h2 : W 20 < 2 ^ 9000 := by decide +kernel
  omega
theorem small_W {k : Nat} (hk : k ≤ 20) {a : Int} (h : a.natAbs ≤ W k) : Small a := Nat.lt_of_le_of_lt h (W_small hk)
/-- the sum that both give -/
def rsum : Int × Int → List (Int × (Int × Int)) → Int × Int
  | pq, [] => pq
  | pq, (n, f) :: r => rsum (low (pq.1 * f.2 + n * f.1 * pq.2) (pq.2 * f.2)) r
/-- numbers and fractions of a usual size -/
def Okf (z : Int × (Int × Int)) : Prop := z.1.natAbs ≤ 10 ^ 40 ∧ z.2.1.natAbs ≤ 10 ^ 40 ∧ z.2.2.natAbs ≤ 10 ^ 40 ∧ z.2.2 ≠ 0
def dz (l : List (Int × (Int × Int))) : List D := l.map fun z => .tup [.int z.1, fr z.2.1 z.2.2]
theorem mul_le' {a b : Int} {x y : Nat} (ha : a.natAbs ≤ x) (hb : b.natAbs ≤ y) : (a * b).natAbs ≤ x * y := by
  rw [Int.natAbs_mul]
  exact Nat.mul_le_mul ha hb
theorem add_le' {a b : Int} {x y : Nat} (ha : a.natAbs ≤ x) (hb : b.natAbs ≤ y) : (a + b).natAbs ≤ x + y := Nat.le_trans (Int.natAbs_add_le a b) (Nat.add_le_add ha hb)
abbrev rB (FU : Nat) : M Fl := setM 2 (callF N_3.length (b_3 FU) (oA (own (getV 2)) (oA (own (shr (callF N_4.length (b_4 FU) (oA (own (tupM (consL (getV 3) (consL (Mp.ret (.int 1)) (nilL))))) (oA (own (getV 4)) (nilA)))))) (nilA))))
theorem row_turn {FU : Nat} (hF : 18001 ≤ FU) (v0 v1 o3 o4 : Option O) (p q n f g : Int) (k : Nat) (hk : k ≤ 17) (hp : p.natAbs ≤ W k) (hq : q.natAbs ≤ W k) (hq0 : q ≠ 0) (ok : Okf (n, (f, g))) :
    ∃ e3 e4, seqM (bindT (.tp [3, 4]) (.tup [.int n, fr f g])) (rB FU) [v0, v1, some (.sh (fr p q)), o3, o4] = (.ok .nx, [v0, v1, some (.sh (fr (low (p * g + n * f * q) (q * g)).1 (low (p * g + n * f * q) (q * g)).2)), e3, e4]) := by
  obtain ⟨h1, h2, h3, h4⟩ : n.natAbs ≤ 10 ^ 40 ∧ f.natAbs ≤ 10 ^ 40 ∧ g.natAbs ≤ 10 ^ 40 ∧ g ≠ 0 := ok
  have w1 : (10 : Nat) ^ 40 ≤ W 1 := by decide +kernel
  have w2 : (10 : Nat) ^ 40 * 10 ^ 40 ≤ W 1 := by decide +kernel
  have sn : Small n := small_W (k := 1) (by decide) (Nat.le_trans h1 w1)
  have sf : Small f := small_W (k := 1) (by decide) (Nat.le_trans h2 w1)
  have sg : Small g := small_W (k := 1) (by decide) (Nat.le_trans h3 w1)
  have s1 : Small 1 := small_W (k := 1) (by decide) (by decide +kernel)
  have e1g : (1 : Int) * g = g := Int.one_mul g
  obtain ⟨e, t4⟩ := b4_ok hF n 1 f g sn s1 sf sg (by rw [e1g]; exact h4) (by rw [e1g]; exact sg)
  rw [e1g] at t4
  have nf : (n * f).natAbs ≤ W 1 := Nat.le_trans (mul_le' h1 h2) w2
  have lt1 : (low (n * f) g).1.natAbs ≤ W 1 := Nat.le_trans (low_le_l h4) nf
  have lt2 : (low (n * f) g).2.natAbs ≤ W 1 := Nat.le_trans (low_le_r h4) (Nat.le_trans h3 w1)
  have lp := low_pos (a := n * f) h4
  have w3 : W k * W 1 ≤ W (k + 1) := Nat.le_of_eq (W_succ k).symm
  obtain ⟨e', t3⟩ := b3_ok hF p q (low (n * f) g).1 (low (n * f) g).2 (small_W (by omega) hp) (small_W (by omega) hq) (small_W (k := 1) (by decide) lt1) (small_W (k := 1) (by decide) lt2) (Int.mul_ne_zero hq0 (by omega)) (small_W (k := k + 1) (by omega) (Nat.le_trans (mul_le' hq lt2) w3))
  rw [low_sum hq0 h4] at t3
  refine ⟨some (.sh (.int n)), some (.sh (fr f g)), ?_⟩
  simp [v_bnd, v_ret, v_lift, v_bad, v_shr, v_own, v_getV, v_bin, v_cmpM, v_ofB, v_tru, v_notM, v_andM, v_orM, v_andV, v_orV, v_iteM, v_nilL, v_consL, v_tupM, v_lstM, v_callM, v_negM, v_ixM, v_lookV, v_vixM, v_vvxM, v_scal1, v_noE, v_someE, v_sliceM, v_revM, v_isiM, v_skipM, v_seqM, v_retM, v_dropM, v_ifM, v_putV, v_setM, v_puts0, v_puts1, v_parM, v_bindN, v_bindT, v_asgM, v_forM, v_valM, v_rng1M, v_rng2M, v_zipM, v_setKM, v_mutN, v_mutK, v_dispM, v_nilA, v_oA, v_bA, cmp_ne, cmp_eq, cmp_lt, cmp_gt, cmp_le, cmp_ge, bin_add, bin_sub, bin_mul, bin_mod, bin_div, O.share, truF, List.getElem?_cons_zero, List.getElem?_cons_succ, v_callF, takeA, backA, startE, lim, t4, t3]
theorem turn_bound {p q n f g : Int} {k : Nat} (hp : p.natAbs ≤ W k) (hq : q.natAbs ≤ W k) (hq0 : q ≠ 0) (ok : Okf (n, (f, g))) :
    (p * g + n * f * q).natAbs ≤ W (k + 1) ∧ (q * g).natAbs ≤ W (k + 1) ∧ q * g ≠ 0 := by
  obtain ⟨h1, h2, h3, h4⟩ : n.natAbs ≤ 10 ^ 40 ∧ f.natAbs ≤ 10 ^ 40 ∧ g.natAbs ≤ 10 ^ 40 ∧ g ≠ 0 := ok
  have e40 : (10 : Nat) ^ 40 ≤ P76 := by decide +kernel
  have e80 : (10 : Nat) ^ 40 * 10 ^ 40 ≤ P76 := by decide +kernel
  have a1 := mul_le' hp (Nat.le_trans h3 e40)
  have a2 := mul_le' (Nat.le_trans (mul_le' h1 h2) e80) hq
  have a3 := add_le' a1 a2
  have a4 := mul_le' hq (Nat.le_trans h3 e40)
  have e : W (k + 1) = W k * P76 + P76 * W k := by
    unfold W
    rw [Nat.pow_succ, Nat.mul_comm P76, ← Nat.mul_add]
    congr 1
  rw [e]
  exact ⟨a3, Nat.le_trans a4 (Nat.le_add_right _ _), Int.mul_ne_zero hq0 h4⟩
theorem row_loop {FU : Nat} (hF : 18001 ≤ FU) (v0 v1 : Option O) : ∀ (l : List (Int × (Int × Int))) (o3 o4 : Option O) (p q : Int) (k : Nat), k + l.length ≤ 17 → p.natAbs ≤ W k → q.natAbs ≤ W k → q ≠ 0 → (∀ z ∈ l, Okf z) →
    ∃ e3 e4, loopM (.tp [3, 4]) (rB FU) (dz l) [v0, v1, some (.sh (fr p q)), o3, o4] = (.ok .nx, [v0, v1, some (.sh (fr (rsum (p, q) l).1 (rsum (p, q) l).2)), e3, e4])
  | [], o3, o4, p, q, k, hk, hp, hq, hq0, ok => ⟨o3, o4, by simp [dz, v_loop0, rsum]⟩
  | (n, (f, g)) :: l, o3, o4, p, q, k, hk, hp, hq, hq0, ok => by
    have ok1 := ok _ List.mem_cons_self
    simp only [List.length_cons] at hk
    obtain ⟨e3, e4, h1⟩ := row_turn hF v0 v1 o3 o4 p q n f g k (by omega) hp hq hq0 ok1
    obtain ⟨b1, b2, b3⟩ := turn_bound hp hq hq0 ok1
    obtain ⟨e3', e4', h2⟩ := row_loop hF v0 v1 l e3 e4 (low (p * g + n * f * q) (q * g)).1 (low (p * g + n * f * q) (q * g)).2 (k + 1) (by omega) (Nat.le_trans (low_le_l b3) b1) (Nat.le_trans (low_le_r b3) b2) (by have := low_pos (a := p * g + n * f * q) b3; omega) fun z hz => ok z (List.mem_cons_of_mem _ hz)
    refine ⟨e3', e4', ?_⟩
    show loopM _ _ (D.tup [.int n, fr f g] :: dz l) _ = _
    rw [v_loop1, h1]
    exact h2
/-- rows and fractions, in a list or a tuple -/
theorem zip_dz : ∀ (l : List (Int × (Int × Int))), ((l.map fun z => D.int z.1).zip (l.map fun z => fr z.2.1 z.2.2)).map (fun p => D.tup [p.1, p.2]) = dz l
  | [] => rfl
  | z :: l => by
    have := zip_dz l
    simp only [dz, List.map_cons, List.zip_cons_cons] at this ⊢
    rw [this]
abbrev rowD (l : List (Int × (Int × Int))) : List D := l.map fun z => D.int z.1
abbrev frD (l : List (Int × (Int × Int))) : List D := l.map fun z => fr z.2.1 z.2.2
theorem b6_ok {FU : Nat} (hF : 18001 ≤ FU) (l : List (Int × (Int × Int))) (hl : l.length ≤ 16) (ok : ∀ z ∈ l, Okf z) (d0 d1 : D) (h0 : seqF d0 = some (rowD l)) (h1 : seqF d1 = some (frD l)) :
    ∃ e, b_6 FU [some (.sh d0), some (.sh d1), none, none, none] = (.ok (.rt (.sh (fr (rsum (0, 1) l).1 (rsum (0, 1) l).2))), e) := by
  obtain ⟨e3, e4, h⟩ := row_loop hF (some (.sh d0)) (some (.sh d1)) l none none 0 1 0 (by omega) (by decide) (by unfold W; simp) (by decide) ok
  have hz : zipF [d0, d1] = some (dz l) := by
    simp only [zipF, h0, h1, Option.bind_some, Option.map_some, zip_dz]
  simp [rB] at h
  unfold b_6
  simp [v_bnd, v_ret, v_lift, v_bad, v_shr, v_own, v_getV, v_bin, v_cmpM, v_ofB, v_tru, v_notM, v_andM, v_orM, v_andV, v_orV, v_iteM, v_nilL, v_consL, v_tupM, v_lstM, v_callM, v_negM, v_ixM, v_lookV, v_vixM, v_vvxM, v_scal1, v_noE, v_someE, v_sliceM, v_revM, v_isiM, v_skipM, v_seqM, v_retM, v_dropM, v_ifM, v_putV, v_setM, v_puts0, v_puts1, v_parM, v_bindN, v_bindT, v_asgM, v_forM, v_valM, v_rng1M, v_rng2M, v_zipM, v_setKM, v_mutN, v_mutK, v_dispM, v_nilA, v_oA, v_bA, cmp_ne, cmp_eq, cmp_lt, cmp_gt, cmp_le, cmp_ge, bin_add, bin_sub, bin_mul, bin_mod, bin_div, O.share, truF, List.getElem?_cons_zero, List.getElem?_cons_succ, lim, hz, h]
/-! ### the law's own sum of a row -/
abbrev oB (FU : Nat) : M Fl := asgM (.tp [3, 4]) (shr (callF N_9.length (b_9 FU) (oA (own (shr (Mp.bin (binF .Add) (shr (Mp.bin (binF .Mult) (getV 3) (ixM (vixM 1 (getV 2)) (Mp.ret (.int 1))))) (shr (Mp.bin (binF .Mult) (shr (Mp.bin (binF .Mult) (vixM 0 (getV 2)) (ixM (vixM 1 (getV 2)) (Mp.ret (.int 0))))) (getV 4)))))) (oA (own (shr (Mp.bin (binF .Mult) (getV 4) (ixM (vixM 1 (getV 2)) (Mp.ret (.int 1)))))) (nilA)))))
theorem own_turn {FU : Nat} (hF : 18001 ≤ FU) (d0 d1 : D) (o2 : Option O) (p q n f g : Int) (i k : Nat) (hk : k ≤ 17) (hp : p.natAbs ≤ W k) (hq : q.natAbs ≤ W k) (hq0 : q ≠ 0) (ok : Okf (n, (f, g))) (i0 : ixF d0 (.int i) = some (.int n)) (i1 : ixF d1 (.int i) = some (fr f g)) :
    seqM (bindT (.nm 2) (.int i)) (oB FU) [some (.sh d0), some (.sh d1), o2, some (.sh (.int p)), some (.sh (.int q))] = (.ok .nx, [some (.sh d0), some (.sh d1), some (.sh (.int i)), some (.sh (.int (low (p * g + n * f * q) (q * g)).1)), some (.sh (.int (low (p * g + n * f * q) (q * g)).2))]) := by
  obtain ⟨b1, b2, b3⟩ := turn_bound hp hq hq0 ok
  obtain ⟨h1, h2, h3, h4⟩ : n.natAbs ≤ 10 ^ 40 ∧ f.natAbs ≤ 10 ^ 40 ∧ g.natAbs ≤ 10 ^ 40 ∧ g ≠ 0 := ok
  have w1 : (10 : Nat) ^ 40 ≤ W 1 := by decide +kernel
  have w2 : (10 : Nat) ^ 40 * 10 ^ 40 ≤ W 1 := by decide +kernel
  have sn : Small n := small_W (k := 1) (by decide) (Nat.le_trans h1 w1)
  have sf : Small f := small_W (k := 1) (by decide) (Nat.le_trans h2 w1)
  have sg : Small g := small_W (k := 1) (by decide) (Nat.le_trans h3 w1)
  have sp : Small p := small_W (k := k) (by omega) hp
  have sq : Small q := small_W (k := k) (by omega) hq
  have snf : Small (n * f) := small_W (k := 1) (by decide) (Nat.le_trans (mul_le' h1 h2) w2)
  obtain ⟨e, t9⟩ := b9_ok hF (p * g + n * f * q) (q * g) b3 (small_W (k := k + 1) (by omega) b2)
  have j0 : itemO (.sh d0) (.int i) = some (.sh (.int n)) := by simp only [itemO, i0, Option.map_some]
  have j1 : itemO (.sh d1) (.int i) = some (.sh (fr f g)) := by simp only [itemO, i1, Option.map_some]
  have x0 : ixF (fr f g) (.int 0) = some (.int f) := rfl
  have x1 : ixF (fr f g) (.int 1) = some (.int g) := rfl
  simp [v_bnd, v_ret, v_lift, v_bad, v_shr, v_own, v_getV, v_bin, v_cmpM, v_ofB, v_tru, v_notM, v_andM, v_orM, v_andV, v_orV, v_iteM, v_nilL, v_consL, v_tupM, v_lstM, v_callM, v_negM, v_ixM, v_lookV, v_vixM, v_vvxM, v_scal1, v_noE, v_someE, v_sliceM, v_revM, v_isiM, v_skipM, v_seqM, v_retM, v_dropM, v_ifM, v_putV, v_setM, v_puts0, v_puts1, v_parM, v_bindN, v_bindT, v_asgM, v_forM, v_valM, v_rng1M, v_rng2M, v_zipM, v_setKM, v_mutN, v_mutK, v_dispM, v_nilA, v_oA, v_bA, cmp_ne, cmp_eq, cmp_lt, cmp_gt, cmp_le, cmp_ge, bin_add, bin_sub, bin_mul, bin_mod, bin_div, O.share, truF, List.getElem?_cons_zero, List.getElem?_cons_succ, v_callF, takeA, backA, startE, lim, j0, j1, x0, x1, mul_small, sn, sf, sg, sp, sq, snf, t9]
theorem atI_nat {α : Type} (xs : List α) (i : Nat) : L2.atI xs (i : Int) = xs[i]? := by
  unfold L2.atI L2.ixN
  by_cases h : i < xs.length
  · have h1 : (0 : Int) ≤ i := by omega
    have h2 : (i : Int) < xs.length := by omega
    rw [if_pos h1, if_pos h2]
    simp
  · have h1 : (0 : Int) ≤ i := by omega
    have h2 : ¬ (i : Int) < xs.length := by omega
    rw [if_pos h1, if_neg h2, List.getElem?_eq_none (by omega)]
    rfl
theorem ix_seq {d : D} {xs : List D} (h : seqF d = some xs) (i : Nat) : ixF d (.int (i : Int)) = xs[i]? := by
  cases d <;> simp only [seqF, reduceCtorEq, Option.some.injEq] at h <;> subst h <;> simp only [ixF, atI_nat]
theorem own_loop {FU : Nat} (hF : 18001 ≤ FU) (L : List (Int × (Int × Int))) (d0 d1 : D) (h0 : seqF d0 = some (rowD L)) (h1 : seqF d1 = some (frD L)) : ∀ (l : List (Int × (Int × Int))) (i : Nat) (o2 : Option O) (p q : Int) (k : Nat), L.drop i = l → k + l.length ≤ 17 → p.natAbs ≤ W k → q.natAbs ≤ W k → q ≠ 0 → (∀ z ∈ l, Okf z) →
    ∃ e2, loopM (.nm 2) (oB FU) ((List.range' i l.length).map fun j : Nat => D.int (j : Int)) [some (.sh d0), some (.sh d1), o2, some (.sh (.int p)), some (.sh (.int q))] = (.ok .nx, [some (.sh d0), some (.sh d1), e2, some (.sh (.int (rsum (p, q) l).1)), some (.sh (.int (rsum (p, q) l).2))])
  | [], i, o2, p, q, k, hd, hk, hp, hq, hq0, ok => ⟨o2, by simp [v_loop0, rsum]⟩
  | (n, (f, g)) :: l, i, o2, p, q, k, hd, hk, hp, hq, hq0, ok => by
    have ok1 := ok _ List.mem_cons_self
    simp only [List.length_cons] at hk
    have hz : L[i]? = some (n, (f, g)) := by
      have := congrArg (fun x : List (Int × (Int × Int)) => x[0]?) hd
      simpa using this
    have hd2 : L.drop (i + 1) = l := by
      have := congrArg List.tail hd
      simpa using this
    have i0 : ixF d0 (.int (i : Int)) = some (.int n) := by rw [ix_seq h0, List.getElem?_map, hz]; rfl
    have i1 : ixF d1 (.int (i : Int)) = some (fr f g) := by rw [ix_seq h1, List.getElem?_map, hz]; rfl
    have t1 := own_turn hF d0 d1 o2 p q n f g (i : Int).toNat k (by omega) hp hq hq0 ok1 (by simpa using i0) (by simpa using i1)
    obtain ⟨b1, b2, b3⟩ := turn_bound hp hq hq0 ok1
    obtain ⟨e2, h2⟩ := own_loop hF L d0 d1 h0 h1 l (i + 1) (some (.sh (.int (i : Int)))) (low (p * g + n * f * q) (q * g)).1 (low (p * g + n * f * q) (q * g)).2 (k + 1) hd2 (by omega) (Nat.le_trans (low_le_l b3) b1) (Nat.le_trans (low_le_r b3) b2) (by have := low_pos (a := p * g + n * f * q) b3; omega) fun z hz => ok z (List.mem_cons_of_mem _ hz)
    refine ⟨e2, ?_⟩
    rw [List.length_cons, List.range'_succ, List.map_cons, v_loop1]
    simp only [Int.toNat_natCast] at t1
    rw [t1]
    exact h2
theorem b11_ok {FU : Nat} (hF : 18001 ≤ FU) (l : List (Int × (Int × Int))) (hl : l.length ≤ 16) (ok : ∀ z ∈ l, Okf z) (d0 d1 : D) (h0 : seqF d0 = some (rowD l)) (h1 : seqF d1 = some (frD l)) :
    ∃ e, b_11 FU [some (.sh d0), some (.sh d1), none, none, none] = (.ok (.rt (.sh (fr (rsum (0, 1) l).1 (rsum (0, 1) l).2))), e) := by
  obtain ⟨e2, h⟩ := own_loop hF l d0 d1 h0 h1 l 0 none 0 1 0 rfl (by omega) (by decide) (by unfold W; simp) (by decide) ok
  have hr : rng1F [D.int (l.length : Int)] = some ((List.range' 0 l.length).map fun j : Nat => D.int (j : Int)) := by
    have h2 : small62 (l.length : Int) = true := by
      unfold small62
      simp
      omega
    simp only [rng1F, h2, if_true, rngL, List.range_eq_range', Int.zero_add, Int.toNat_natCast]
  have hlen : lenS d0 = some (.int (l.length : Int)) := by
    cases d0 <;> simp only [seqF, reduceCtorEq, Option.some.injEq] at h0 <;> subst h0 <;> simp [lenS]
  simp [oB] at h
  unfold b_11
  simp [v_bnd, v_ret, v_lift, v_bad, v_shr, v_own, v_getV, v_bin, v_cmpM, v_ofB, v_tru, v_notM, v_andM, v_orM, v_andV, v_orV, v_iteM, v_nilL, v_consL, v_tupM, v_lstM, v_callM, v_negM, v_ixM, v_lookV, v_vixM, v_vvxM, v_scal1, v_noE, v_someE, v_sliceM, v_revM, v_isiM, v_skipM, v_seqM, v_retM, v_dropM, v_ifM, v_putV, v_setM, v_puts0, v_puts1, v_parM, v_bindN, v_bindT, v_asgM, v_forM, v_valM, v_rng1M, v_rng2M, v_zipM, v_setKM, v_mutN, v_mutK, v_dispM, v_nilA, v_oA, v_bA, cmp_ne, cmp_eq, cmp_lt, cmp_gt, cmp_le, cmp_ge, bin_add, bin_sub, bin_mul, bin_mod, bin_div, O.share, truF, List.getElem?_cons_zero, List.getElem?_cons_succ, lim, hlen, hr, h]
end La
end
section
namespace La
open Mp
/-! ### the source of draws -/
structure Src where
  cells : List Int
  left : Int
  mixed : Int
  turn : Int
def Src.o (s : Src) : O := .dK [.s s1, .s s0, .s s3, .s s2] [.lst (s.cells.map fun n => O.sh (.int n)), .sh (.int s.left), .sh (.int s.mixed), .sh (.int s.turn)]
theorem it_left (s : Src) : itemO s.o (.str s0) = some (.sh (.int s.left)) := rfl
theorem it_turn (s : Src) : itemO s.o (.str s2) = some (.sh (.int s.turn)) := rfl
theorem it_mixed (s : Src) : itemO s.o (.str s3) = some (.sh (.int s.mixed)) := rfl
theorem it_cells (s : Src) : itemO s.o (.str s1) = some (.lst (s.cells.map fun n => O.sh (.int n))) := rfl
theorem set_left (s : Src) (x : Int) : setF s.o (.str s0) (.sh (.int x)) = some ({ s with left := x } : Src).o := rfl
theorem set_turn (s : Src) (x : Int) : setF s.o (.str s2) (.sh (.int x)) = some ({ s with turn := x } : Src).o := rfl
theorem put_cells (s : Src) (c : List Int) : putO s.o (.str s1) (.lst (c.map fun n => O.sh (.int n))) = ({ s with cells := c } : Src).o := rfl
theorem share_o (s : Src) : ∃ x, s.o = .dK [.s s1, .s s0, .s s3, .s s2] x := ⟨_, rfl⟩
abbrev pT : M Bool := andM (cmpM (cmpF .Gt) (getV 1) (Mp.ret (.int 1))) (andM (cmpM (cmpF .Lt) (vixM 0 (Mp.ret (.str s0))) (Mp.ret (.int 2))) (cmpM (cmpF .Gt) (scal1 lenS (vvxM 0 (Mp.ret (.str s1)))) (Mp.ret (.int 0))))
abbrev pB : M Fl := setKM 0 (Mp.ret (.str s0)) (mutK "list" 0 (Mp.ret (.str s1)) popF nilL)
theorem len_cells (c : List Int) : lenS (O.share (.lst (c.map fun n => O.sh (.int n)))) = some (.int c.length) := by
  simp only [O.share, lenS, O.shares_map, List.length_map]
theorem len_nil : lenS (O.share (.lst [])) = some (.int 0) := rfl
theorem pick_loop (v2 v3 : Option O) (many : Int) : ∀ (n : Nat) (s : Src), s.cells.length + 1 ≤ n → ∃ s' : Src, s'.cells.length ≤ s.cells.length ∧ whileM n pT pB [some s.o, some (.sh (.int many)), v2, v3] = (.ok .nx, [some s'.o, some (.sh (.int many)), v2, v3])
  | 0, s, h => by omega
  | n + 1, s, h => by
    by_cases hm : 1 < many
    case neg => exact ⟨s, Nat.le_refl _, by rw [v_while]; simp [v_bnd, v_ret, v_lift, v_bad, v_shr, v_own, v_getV, v_bin, v_cmpM, v_ofB, v_tru, v_notM, v_andM, v_orM, v_andV, v_orV, v_iteM, v_nilL, v_consL, v_tupM, v_lstM, v_callM, v_negM, v_ixM, v_lookV, v_vixM, v_vvxM, v_scal1, v_noE, v_someE, v_sliceM, v_revM, v_isiM, v_skipM, v_seqM, v_retM, v_dropM, v_ifM, v_putV, v_setM, v_puts0, v_puts1, v_parM, v_bindN, v_bindT, v_asgM, v_forM, v_valM, v_rng1M, v_rng2M, v_zipM, v_setKM, v_mutN, v_mutK, v_dispM, v_nilA, v_oA, v_bA, cmp_ne, cmp_eq, cmp_lt, cmp_gt, cmp_le, cmp_ge, bin_add, bin_sub, bin_mul, bin_mod, bin_div, O.share, truF, List.getElem?_cons_zero, List.getElem?_cons_succ, hm]⟩
    by_cases hl : s.left < 2
    case neg => exact ⟨s, Nat.le_refl _, by rw [v_while]; simp [v_bnd, v_ret, v_lift, v_bad, v_shr, v_own, v_getV, v_bin, v_cmpM, v_ofB, v_tru, v_notM, v_andM, v_orM, v_andV, v_orV, v_iteM, v_nilL, v_consL, v_tupM, v_lstM, v_callM, v_negM, v_ixM, v_lookV, v_vixM, v_vvxM, v_scal1, v_noE, v_someE, v_sliceM, v_revM, v_isiM, v_skipM, v_seqM, v_retM, v_dropM, v_ifM, v_putV, v_setM, v_puts0, v_puts1, v_parM, v_bindN, v_bindT, v_asgM, v_forM, v_valM, v_rng1M, v_rng2M, v_zipM, v_setKM, v_mutN, v_mutK, v_dispM, v_nilA, v_oA, v_bA, cmp_ne, cmp_eq, cmp_lt, cmp_gt, cmp_le, cmp_ge, bin_add, bin_sub, bin_mul, bin_mod, bin_div, O.share, truF, List.getElem?_cons_zero, List.getElem?_cons_succ, hm, it_left, hl]⟩
    by_cases hc : s.cells = []
    case pos => exact ⟨s, Nat.le_refl _, by rw [v_while]; simp [v_bnd, v_ret, v_lift, v_getV, v_cmpM, v_andM, v_vixM, v_vvxM, v_scal1, cmp_gt, cmp_lt, hm, it_left, hl, it_cells, len_nil, hc]⟩
    obtain ⟨c, x, hx⟩ : ∃ c x, s.cells = c ++ [x] := ⟨s.cells.dropLast, s.cells.getLast hc, (List.dropLast_concat_getLast hc).symm⟩
    have hlen : 0 < (s.cells.length : Int) := by rw [hx]; simp
    obtain ⟨s', h1, h2⟩ := pick_loop v2 v3 many n { s with cells := c, left := x } (by rw [hx] at h; simp at h ⊢; omega)
    refine ⟨s', Nat.le_trans h1 (by rw [hx]; simp), ?_⟩
    have hp : popF (.lst (s.cells.map fun n => O.sh (.int n))) [] = some (.lst (c.map fun n => O.sh (.int n)), .sh (.int x)) := by
      simp [popF, hx]
    have t1 : pT [some s.o, some (.sh (.int many)), v2, v3] = (.ok true, [some s.o, some (.sh (.int many)), v2, v3]) := by
      simp [v_bnd, v_ret, v_lift, v_getV, v_cmpM, v_andM, v_vixM, v_vvxM, v_scal1, cmp_gt, cmp_lt, hm, it_left, hl, it_cells, len_cells, hlen]
      rw [hx]
      simp
    have t2 : pB [some s.o, some (.sh (.int many)), v2, v3] = (.ok .nx, [some ({ s with cells := c, left := x } : Src).o, some (.sh (.int many)), v2, v3]) := by
      simp [v_setKM, v_mutK, v_bnd, v_ret, it_cells, nsh, isT, v_nilL, hp, put_cells, set_left]
    rw [v_while, t1]
    simp only
    rw [t2]
    exact h2
theorem max1 (many : Int) : (if many > 1 then many else 1) = max 1 many := by
  split <;> omega
theorem pick_ok {FU : Nat} (hF : 18001 ≤ FU) (s : Src) (hs : s.cells.length ≤ 63) (many : Int) (h1 : 1 ≤ many) (h2 : many ≤ 1000) :
    ∃ (r : Int) (s' : Src) (e : Env), 0 ≤ r ∧ r < many ∧ s'.cells.length ≤ 63 ∧ b_7 FU [some s.o, some (.sh (.int many)), none, none] = (.ok (.rt (.sh (.int r))), some s'.o :: e) := by
  obtain ⟨t, t1, t2⟩ := pick_loop none none many FU s (by omega)
  have hmax : max2F [.int 1, .int many] = some (.sh (.int many)) := by
    simp only [max2F, max1]
    rw [Int.max_eq_right h1]
  have hlog : many.natAbs.log2 < 9000 := log_small (by
    have h3 : (1000 : Nat) < 2 ^ 9000 := by decide +kernel
    omega)
  have hne : many ≠ 0 := by omega
  have pos : (0 : Int) < many := by omega
  have fm : ∀ x : Int, 0 ≤ x.fmod many ∧ x.fmod many < many := fun x => by
    rw [Int.fmod_eq_emod_of_nonneg x (by omega)]
    exact ⟨Int.emod_nonneg x hne, Int.emod_lt_of_pos x pos⟩
  by_cases hb : many < 2 ∨ 1 < t.left
  · refine ⟨t.left.fmod many, { t with left := t.left.fdiv many }, [some (.sh (.int many)), some (.sh (.int t.left)), none], (fm _).1, (fm _).2, by show t.cells.length ≤ 63; omega, ?_⟩
    unfold b_7
    rw [v_seqM]
    simp only [t2]
    rcases hb with hb | hb
    · simp [v_bnd, v_ret, v_lift, v_bad, v_shr, v_own, v_getV, v_bin, v_cmpM, v_ofB, v_tru, v_notM, v_andM, v_orM, v_andV, v_orV, v_iteM, v_nilL, v_consL, v_tupM, v_lstM, v_callM, v_negM, v_ixM, v_lookV, v_vixM, v_vvxM, v_scal1, v_noE, v_someE, v_sliceM, v_revM, v_isiM, v_skipM, v_seqM, v_retM, v_dropM, v_ifM, v_putV, v_setM, v_puts0, v_puts1, v_parM, v_bindN, v_bindT, v_asgM, v_forM, v_valM, v_rng1M, v_rng2M, v_zipM, v_setKM, v_mutN, v_mutK, v_dispM, v_nilA, v_oA, v_bA, cmp_ne, cmp_eq, cmp_lt, cmp_gt, cmp_le, cmp_ge, bin_add, bin_sub, bin_mul, bin_mod, bin_div, O.share, truF, List.getElem?_cons_zero, List.getElem?_cons_succ, it_left, hb, hmax, hlog, hne, set_left, intF]
    · by_cases hb2 : many < 2
      · simp [v_bnd, v_ret, v_lift, v_bad, v_shr, v_own, v_getV, v_bin, v_cmpM, v_ofB, v_tru, v_notM, v_andM, v_orM, v_andV, v_orV, v_iteM, v_nilL, v_consL, v_tupM, v_lstM, v_callM, v_negM, v_ixM, v_lookV, v_vixM, v_vvxM, v_scal1, v_noE, v_someE, v_sliceM, v_revM, v_isiM, v_skipM, v_seqM, v_retM, v_dropM, v_ifM, v_putV, v_setM, v_puts0, v_puts1, v_parM, v_bindN, v_bindT, v_asgM, v_forM, v_valM, v_rng1M, v_rng2M, v_zipM, v_setKM, v_mutN, v_mutK, v_dispM, v_nilA, v_oA, v_bA, cmp_ne, cmp_eq, cmp_lt, cmp_gt, cmp_le, cmp_ge, bin_add, bin_sub, bin_mul, bin_mod, bin_div, O.share, truF, List.getElem?_cons_zero, List.getElem?_cons_succ, it_left, hb2, hmax, hlog, hne, set_left, intF]
      · simp [v_bnd, v_ret, v_lift, v_bad, v_shr, v_own, v_getV, v_bin, v_cmpM, v_ofB, v_tru, v_notM, v_andM, v_orM, v_andV, v_orV, v_iteM, v_nilL, v_consL, v_tupM, v_lstM, v_callM, v_negM, v_ixM, v_lookV, v_vixM, v_vvxM, v_scal1, v_noE, v_someE, v_sliceM, v_revM, v_isiM, v_skipM, v_seqM, v_retM, v_dropM, v_ifM, v_putV, v_setM, v_puts0, v_puts1, v_parM, v_bindN, v_bindT, v_asgM, v_forM, v_valM, v_rng1M, v_rng2M, v_zipM, v_setKM, v_mutN, v_mutK, v_dispM, v_nilA, v_oA, v_bA, cmp_ne, cmp_eq, cmp_lt, cmp_gt, cmp_le, cmp_ge, bin_add, bin_sub, bin_mul, bin_mod, bin_div, O.share, truF, List.getElem?_cons_zero, List.getElem?_cons_succ, it_left, hb, hb2, hmax, hlog, hne, set_left, intF]
  · have n1 : ¬ many < 2 := fun h => hb (.inl h)
    have n2 : ¬ 1 < t.left := fun h => hb (.inr h)
    have m1 : mulOk (t.turn + 1) 104729 = true := by unfold mulOk; simp
    have m2 : mulOk (t.turn + 1) 17 = true := by unfold mulOk; simp
    have m3 : ∀ x : Int, mulOk (x.fmod 998244353) (x.fmod 998244353) = true := fun x => by
      have h3 : x.fmod 998244353 = x % 998244353 := Int.fmod_eq_emod_of_nonneg x (by omega)
      have h4 := Int.emod_nonneg x (show (998244353 : Int) ≠ 0 by omega)
      have h5 := Int.emod_lt_of_pos x (show (0 : Int) < 998244353 by omega)
      unfold mulOk
      rw [h3]
      have h6 : (x % 998244353).natAbs < 2 ^ 64 := by omega
      simp [h6]
    have l16 : Nat.log2 16 < 9000 := by decide
    have go : ∀ m q : Int, m = (t.mixed + (t.turn + 1) * 104729).fmod 998244353 → q = (m * m + (t.turn + 1) * 17).fmod 2147483647 →
        b_7 FU [some s.o, some (.sh (.int many)), none, none] = (.ok (.rt (.sh (.int ((q.fdiv 16).fmod many)))), [some ({ t with turn := t.turn + 1 } : Src).o, some (.sh (.int many)), some (.sh (.int t.left)), some (.sh (.int q))]) := by
      intro m q hm hq
      subst hm
      subst hq
      unfold b_7
      rw [v_seqM]
      simp only [t2]
      simp [v_bnd, v_ret, v_lift, v_bad, v_shr, v_own, v_getV, v_bin, v_cmpM, v_ofB, v_tru, v_notM, v_andM, v_orM, v_andV, v_orV, v_iteM, v_nilL, v_consL, v_tupM, v_lstM, v_callM, v_negM, v_ixM, v_lookV, v_vixM, v_vvxM, v_scal1, v_noE, v_someE, v_sliceM, v_revM, v_isiM, v_skipM, v_seqM, v_retM, v_dropM, v_ifM, v_putV, v_setM, v_puts0, v_puts1, v_parM, v_bindN, v_bindT, v_asgM, v_forM, v_valM, v_rng1M, v_rng2M, v_zipM, v_setKM, v_mutN, v_mutK, v_dispM, v_nilA, v_oA, v_bA, cmp_ne, cmp_eq, cmp_lt, cmp_gt, cmp_le, cmp_ge, bin_add, bin_sub, bin_mul, bin_mod, bin_div, O.share, truF, List.getElem?_cons_zero, List.getElem?_cons_succ, it_left, it_turn, it_mixed, n1, n2, hne, set_turn, intF, m1, m2, m3, l16]
    exact ⟨_, { t with turn := t.turn + 1 }, _, (fm _).1, (fm _).2, by show t.cells.length ≤ 63; omega, go _ _ rfl rfl⟩
end La
end
section
namespace La
open Mp
theorem of_ok {FU : Nat} (hF : 18001 ≤ FU) (s : Src) (hs : s.cells.length ≤ 63) (xs : List D) (h1 : 1 ≤ xs.length) (h2 : xs.length ≤ 1000) :
    ∃ (d : D) (s' : Src), d ∈ xs ∧ s'.cells.length ≤ 63 ∧ ∃ e : Env, b_8 FU [some s.o, some (.sh (.lst xs))] = (.ok (.rt (.sh d)), some s'.o :: e) := by
  obtain ⟨r, s', e, r0, r1, c', hp⟩ := pick_ok hF s hs (xs.length : Int) (by omega) (by omega)
  obtain ⟨n, rfl⟩ : ∃ n : Nat, r = n := ⟨r.toNat, by omega⟩
  have hi : n < xs.length := by omega
  have hix : itemO (.sh (.lst xs)) (.int (n : Int)) = some (.sh xs[n]) := by
    simp only [itemO, ixF, atI_nat]
    rw [List.getElem?_eq_getElem hi]
    rfl
  refine ⟨xs[n], s', List.getElem_mem hi, c', ?_⟩
  have hlen : lenS (.lst xs) = some (.int xs.length) := rfl
  unfold b_8
  simp [v_bnd, v_ret, v_lift, v_bad, v_shr, v_own, v_getV, v_bin, v_cmpM, v_ofB, v_tru, v_notM, v_andM, v_orM, v_andV, v_orV, v_iteM, v_nilL, v_consL, v_tupM, v_lstM, v_callM, v_negM, v_ixM, v_lookV, v_vixM, v_vvxM, v_scal1, v_noE, v_someE, v_sliceM, v_revM, v_isiM, v_skipM, v_seqM, v_retM, v_dropM, v_ifM, v_putV, v_setM, v_puts0, v_puts1, v_parM, v_bindN, v_bindT, v_asgM, v_forM, v_valM, v_rng1M, v_rng2M, v_zipM, v_setKM, v_mutN, v_mutK, v_dispM, v_nilA, v_oA, v_bA, cmp_ne, cmp_eq, cmp_lt, cmp_gt, cmp_le, cmp_ge, bin_add, bin_sub, bin_mul, bin_mod, bin_div, O.share, truF, List.getElem?_cons_zero, List.getElem?_cons_succ, hlen, v_callF, takeA, backA, startE, hp, hix]
theorem p30 : binF .Pow (.int 10) (.int 30) = some (.sh (.int 1000000000000000000000000000000)) := rfl
theorem p18 : binF .Pow (.int 10) (.int 18) = some (.sh (.int 1000000000000000000)) := rfl
theorem p37 : binF .Pow (.int 10) (.int 37) = some (.sh (.int 10000000000000000000000000000000000000)) := rfl
def odds : List D := [.non, .bl true, .bl false, .int (-1), .int 7, .int 1000000000000000000000000000000, .str s4, .str s5, .str s6, .tup [], .lst [], .dK [] [], .tup [.non], .lst [.tup []], .tup [.int 0], .tup [.int 0, .int 0], .tup [.str s6, .int 1], .dK [.i 0] [.int 1]]
theorem small_le {a : Int} {n : Nat} (h : a.natAbs ≤ n) (hn : n < 2 ^ 9000) : Small a := Nat.lt_of_le_of_lt h hn
theorem odd_ok {FU : Nat} (hF : 18001 ≤ FU) (s : Src) (hs : s.cells.length ≤ 63) : ∃ (d : D) (s' : Src), d ∈ odds ∧ s'.cells.length ≤ 63 ∧ ∃ e : Env, b_12 FU [some s.o, none] = (.ok (.rt (.sh d)), some s'.o :: e) := by
  obtain ⟨d, s', hd, c', e, ho⟩ := of_ok hF s hs odds (by decide) (by decide)
  refine ⟨d, s', hd, c', ?_⟩
  have hadd : binF .Add (.lst (odds.take 17)) (.lst [.dK [.i 0] [.int 1]]) = some (.lst (odds.map .sh)) := rfl
  simp [odds] at hadd
  have hsh : O.share (.lst (odds.map .sh)) = .lst odds := by
    simp only [O.share, O.shares_sh]
  simp [odds, O.share, O.shares] at hsh
  simp [odds] at ho
  unfold b_12
  simp [v_bnd, v_ret, v_lift, v_bad, v_shr, v_own, v_getV, v_bin, v_cmpM, v_ofB, v_tru, v_notM, v_andM, v_orM, v_andV, v_orV, v_iteM, v_nilL, v_consL, v_tupM, v_lstM, v_callM, v_negM, v_ixM, v_lookV, v_vixM, v_vvxM, v_scal1, v_noE, v_someE, v_sliceM, v_revM, v_isiM, v_skipM, v_seqM, v_retM, v_dropM, v_ifM, v_putV, v_setM, v_puts0, v_puts1, v_parM, v_bindN, v_bindT, v_asgM, v_forM, v_valM, v_rng1M, v_rng2M, v_zipM, v_setKM, v_mutN, v_mutK, v_dispM, v_nilA, v_oA, v_bA, cmp_ne, cmp_eq, cmp_lt, cmp_gt, cmp_le, cmp_ge, bin_add, bin_sub, bin_mul, bin_mod, bin_div, O.share, truF, List.getElem?_cons_zero, List.getElem?_cons_succ, lim, p30, O.shares, O.share, hadd, v_callF, takeA, backA, startE, ho]
theorem odd_plain {d : D} (h : d ∈ odds) : plain d = true := by
  simp only [odds, List.mem_cons, List.not_mem_nil, or_false] at h
  rcases h with h | h | h | h | h | h | h | h | h | h | h | h | h | h | h | h | h | h <;> subst h <;> rfl
theorem odd_small {d : D} (h : d ∈ odds) : ∀ b, d = .int b → Small b := by
  simp only [odds, List.mem_cons, List.not_mem_nil, or_false] at h
  have h30 : (10 ^ 30 : Nat) < 2 ^ 9000 := by decide +kernel
  rcases h with h | h | h | h | h | h | h | h | h | h | h | h | h | h | h | h | h | h <;> subst h <;> intro b hb <;> simp only [D.int.injEq, reduceCtorEq] at hb
  all_goals (subst hb; exact small_le (n := 10 ^ 30) (by decide +kernel) h30)
theorem odd_agree {FU : Nat} (hF : 18001 ≤ FU) {d : D} (h : d ∈ odds) : Agree FU d := by
  have hp := odd_plain h
  simp only [odds, List.mem_cons, List.not_mem_nil, or_false] at h
  rcases h with h | h | h | h | h | h | h | h | h | h | h | h | h | h | h | h | h | h <;> subst h
  all_goals first
    | exact agree_other _ hp rfl
    | exact agree_len _ (by decide)
    | exact agree_pair hF _ _ rfl rfl (fun a b _ hb => by
        simp only [D.int.injEq] at hb
        subst hb
        exact small_le (n := 1) (by decide) (by decide +kernel))
end La
end
section
namespace La
open Mp
/-- a number of the usual size -/
def Num (x : Int) : Prop := x.natAbs ≤ 10 ^ 39
def greats : List D := [.int 1, .int 1, .int 1, .int 6, .int 35, .int 1000000000000000009, .int 10000000000000000000000000000000000000]
def nears : List D := [.int 0, .int 0, .int 1, .int (-1)]
theorem number_ok {FU : Nat} (hF : 18001 ≤ FU) (s : Src) (hs : s.cells.length ≤ 63) : ∃ (x : Int) (s' : Src), Num x ∧ s'.cells.length ≤ 63 ∧ ∃ e : Env, b_14 FU [some s.o, none] = (.ok (.rt (.sh (.int x))), some s'.o :: e) := by
  obtain ⟨d1, s1', hd1, c1, e1, h1⟩ := of_ok hF s hs greats (by decide) (by decide)
  obtain ⟨r, s2, e2, r0, r1, c2, h2⟩ := pick_ok hF s1' c1 13 (by decide) (by decide)
  obtain ⟨d3, s3', hd3, c3, e3, h3⟩ := of_ok hF s2 c2 nears (by decide) (by decide)
  obtain ⟨g, rfl, hg0, hg1⟩ : ∃ g : Int, d1 = .int g ∧ 0 ≤ g ∧ g ≤ 10000000000000000000000000000000000000 := by
    simp only [greats, List.mem_cons, List.not_mem_nil, or_false] at hd1
    rcases hd1 with h | h | h | h | h | h | h <;> subst h <;> exact ⟨_, rfl, by decide, by decide⟩
  obtain ⟨t, rfl, ht0, ht1⟩ : ∃ t : Int, d3 = .int t ∧ -1 ≤ t ∧ t ≤ 1 := by
    simp only [nears, List.mem_cons, List.not_mem_nil, or_false] at hd3
    rcases hd3 with h | h | h | h <;> subst h <;> exact ⟨_, rfl, by decide, by decide⟩
  have hm : mulOk (r - 6) g = true := by
    have h6 : (r - 6).natAbs < 2 ^ 64 := by omega
    unfold mulOk
    simp [h6]
  refine ⟨(r - 6) * g + t, s3', ?_, c3, ?_⟩
  · have a1 : ((r - 6) * g).natAbs ≤ 13 * 10000000000000000000000000000000000000 := mul_le' (by omega) (by omega)
    have a2 := add_le' a1 (show t.natAbs ≤ 1 by omega)
    exact Nat.le_trans a2 (by decide)
  · simp [greats] at h1
    simp [nears] at h3
    unfold b_14
    simp [v_bnd, v_ret, v_lift, v_bad, v_shr, v_own, v_getV, v_bin, v_cmpM, v_ofB, v_tru, v_notM, v_andM, v_orM, v_andV, v_orV, v_iteM, v_nilL, v_consL, v_tupM, v_lstM, v_callM, v_negM, v_ixM, v_lookV, v_vixM, v_vvxM, v_scal1, v_noE, v_someE, v_sliceM, v_revM, v_isiM, v_skipM, v_seqM, v_retM, v_dropM, v_ifM, v_putV, v_setM, v_puts0, v_puts1, v_parM, v_bindN, v_bindT, v_asgM, v_forM, v_valM, v_rng1M, v_rng2M, v_zipM, v_setKM, v_mutN, v_mutK, v_dispM, v_nilA, v_oA, v_bA, cmp_ne, cmp_eq, cmp_lt, cmp_gt, cmp_le, cmp_ge, bin_add, bin_sub, bin_mul, bin_mod, bin_div, O.share, truF, List.getElem?_cons_zero, List.getElem?_cons_succ, lim, p18, p37, O.shares, O.share, v_callF, takeA, backA, startE, h1, h2, h3, hm]
theorem num_small {x : Int} (h : Num x) : Small x := small_le h (by decide +kernel)
theorem drawn_ok {FU : Nat} (hF : 18001 ≤ FU) (s : Src) (hs : s.cells.length ≤ 63) : ∃ (a b : Int) (s' : Src), Num a ∧ Num b ∧ 0 < b ∧ s'.cells.length ≤ 63 ∧ ∃ e : Env, b_15 FU [some s.o, none] = (.ok (.rt (.sh (fr a b))), some s'.o :: e) := by
  obtain ⟨y, s1', n1, c1, e1, h1⟩ := number_ok hF s hs
  obtain ⟨x, s2, n2, c2, e2, h2⟩ := number_ok hF s1' c1
  have key : ∀ z : Int, z ≠ 0 → Num z → (y ≠ 0 → z = y) → (y = 0 → z = 4) → ∃ (a b : Int) (s' : Src), Num a ∧ Num b ∧ 0 < b ∧ s'.cells.length ≤ 63 ∧ ∃ e : Env, b_15 FU [some s.o, none] = (.ok (.rt (.sh (fr a b))), some s'.o :: e) := fun z hz nz k1 k2 => by
    obtain ⟨e9, h9⟩ := b9_ok hF x z hz (num_small nz)
    refine ⟨(low x z).1, (low x z).2, s2, Nat.le_trans (low_le_l hz) n2, Nat.le_trans (low_le_r hz) nz, low_pos hz, c2, ?_⟩
    unfold b_15
    by_cases hy : y = 0
    · have := k2 hy
      subst this
      subst hy
      simp [v_bnd, v_ret, v_lift, v_bad, v_shr, v_own, v_getV, v_bin, v_cmpM, v_ofB, v_tru, v_notM, v_andM, v_orM, v_andV, v_orV, v_iteM, v_nilL, v_consL, v_tupM, v_lstM, v_callM, v_negM, v_ixM, v_lookV, v_vixM, v_vvxM, v_scal1, v_noE, v_someE, v_sliceM, v_revM, v_isiM, v_skipM, v_seqM, v_retM, v_dropM, v_ifM, v_putV, v_setM, v_puts0, v_puts1, v_parM, v_bindN, v_bindT, v_asgM, v_forM, v_valM, v_rng1M, v_rng2M, v_zipM, v_setKM, v_mutN, v_mutK, v_dispM, v_nilA, v_oA, v_bA, cmp_ne, cmp_eq, cmp_lt, cmp_gt, cmp_le, cmp_ge, bin_add, bin_sub, bin_mul, bin_mod, bin_div, O.share, truF, List.getElem?_cons_zero, List.getElem?_cons_succ, lim, v_callF, takeA, backA, startE, h1, h2, h9]
    · have := k1 hy
      subst this
      simp [v_bnd, v_ret, v_lift, v_bad, v_shr, v_own, v_getV, v_bin, v_cmpM, v_ofB, v_tru, v_notM, v_andM, v_orM, v_andV, v_orV, v_iteM, v_nilL, v_consL, v_tupM, v_lstM, v_callM, v_negM, v_ixM, v_lookV, v_vixM, v_vvxM, v_scal1, v_noE, v_someE, v_sliceM, v_revM, v_isiM, v_skipM, v_seqM, v_retM, v_dropM, v_ifM, v_putV, v_setM, v_puts0, v_puts1, v_parM, v_bindN, v_bindT, v_asgM, v_forM, v_valM, v_rng1M, v_rng2M, v_zipM, v_setKM, v_mutN, v_mutK, v_dispM, v_nilA, v_oA, v_bA, cmp_ne, cmp_eq, cmp_lt, cmp_gt, cmp_le, cmp_ge, bin_add, bin_sub, bin_mul, bin_mod, bin_div, O.share, truF, List.getElem?_cons_zero, List.getElem?_cons_succ, lim, v_callF, takeA, backA, startE, h1, h2, h9, hy]
  by_cases hy : y = 0
  · exact key 4 (by decide) (by show _ ≤ _; decide) (fun h => absurd hy h) fun _ => rfl
  · exact key y hy n1 (fun _ => rfl) fun h => absurd h hy
/-! ### the source, made -/
abbrev mB : M Fl := setM 1 (Mp.bin (binF .Mod) (shr (callM intF (consL (shr (Mp.bin (binF .Add) (shr (Mp.bin (binF .Add) (shr (Mp.bin (binF .Mult) (getV 1) (Mp.ret (.int 69069)))) (shr (Mp.bin (binF .Mult) (getV 2) (Mp.ret (.int 31)))))) (Mp.ret (.int 5)))) nilL))) (Mp.ret (.int 2147483629)))
theorem mixed_loop (v0 : Option O) : ∀ (ns : List Int) (m : Int) (o2 : Option O), (o2 = none ∨ ∃ x, o2 = some (.sh x)) → ∃ m' o2', (o2' = none ∨ ∃ x, o2' = some (.sh x)) ∧ loopM (.nm 2) mB (ns.map .int) [v0, some (.sh (.int m)), o2] = (.ok .nx, [v0, some (.sh (.int m')), o2'])
  | [], m, o2, h => ⟨m, o2, h, rfl⟩
  | n :: ns, m, o2, h => by
    obtain ⟨m', o2', h1, h2⟩ := mixed_loop v0 ns ((m * 69069 + n * 31 + 5).fmod 2147483629) (some (.sh (.int n))) (.inr ⟨_, rfl⟩)
    refine ⟨m', o2', h1, ?_⟩
    have m1 : mulOk m 69069 = true := by unfold mulOk; simp
    have m2 : mulOk n 31 = true := by unfold mulOk; simp
    rw [List.map_cons, v_loop1]
    have t : seqM (bindT (.nm 2) (.int n)) mB [v0, some (.sh (.int m)), o2] = (.ok .nx, [v0, some (.sh (.int ((m * 69069 + n * 31 + 5).fmod 2147483629))), some (.sh (.int n))]) := by
      simp [v_bnd, v_ret, v_lift, v_bad, v_shr, v_own, v_getV, v_bin, v_cmpM, v_ofB, v_tru, v_notM, v_andM, v_orM, v_andV, v_orV, v_iteM, v_nilL, v_consL, v_tupM, v_lstM, v_callM, v_negM, v_ixM, v_lookV, v_vixM, v_vvxM, v_scal1, v_noE, v_someE, v_sliceM, v_revM, v_isiM, v_skipM, v_seqM, v_retM, v_dropM, v_ifM, v_putV, v_setM, v_puts0, v_puts1, v_parM, v_bindN, v_bindT, v_asgM, v_forM, v_valM, v_rng1M, v_rng2M, v_zipM, v_setKM, v_mutN, v_mutK, v_dispM, v_nilA, v_oA, v_bA, cmp_ne, cmp_eq, cmp_lt, cmp_gt, cmp_le, cmp_ge, bin_add, bin_sub, bin_mul, bin_mod, bin_div, O.share, truF, List.getElem?_cons_zero, List.getElem?_cons_succ, intF, m1, m2]
    rw [t]
    exact h2
theorem source_ok {FU : Nat} (ns : List Int) (hl : ns.length ≤ 63) : ∃ s : Src, s.cells.length ≤ 63 ∧ ∃ e, b_10 FU [some (.sh (.scr ns)), none, none] = (.ok (.rt s.o), e) := by
  obtain ⟨m, o2, ho, h⟩ := mixed_loop (some (.sh (.scr ns))) ns 11 none (.inl rfl)
  have hlim : (ns.map D.int).length ≤ lim := by simp [lim]; omega
  have comp : lcM [2] (.nm 2) (Mp.ret true) (callM absF (consL (getV 2) nilL)) (valM (getV 0)) [some (.sh (.scr ns)), some (.sh (.int m)), o2] = (.ok (.lst (ns.map fun n => O.sh (.int n.natAbs))), [some (.sh (.scr ns)), some (.sh (.int m)), o2]) := by
    have hsh : shVs [2] [some (.sh (.scr ns)), some (.sh (.int m)), o2] = (.ok (), [some (.sh (.scr ns)), some (.sh (.int m)), o2]) := by
      rcases ho with rfl | ⟨x, rfl⟩ <;> rfl
    have hb : backE [some (.sh (.scr ns)), some (.sh (.int m)), o2] [some (.sh (.scr ns)), some (.sh (.int m)), none] [2] = [some (.sh (.scr ns)), some (.sh (.int m)), o2] := by
      rcases ho with rfl | ⟨x, rfl⟩ <;> rfl
    have hv := v_lcM (vs := [2]) (tg := .nm 2) (t := Mp.ret true) (m := callM absF (consL (getV 2) nilL)) (ms := valM (getV 0)) (env := [some (.sh (.scr ns)), some (.sh (.int m)), o2]) (e1 := [some (.sh (.scr ns)), some (.sh (.int m)), o2]) (e2 := [some (.sh (.scr ns)), some (.sh (.int m)), o2]) (e3 := [some (.sh (.scr ns)), some (.sh (.int m)), none]) (ds := ns.map .int) (os := ns.map fun n => O.sh (.int n.natAbs))
      (by simp [v_bnd, v_ret, v_lift, v_bad, v_shr, v_own, v_getV, v_bin, v_cmpM, v_ofB, v_tru, v_notM, v_andM, v_orM, v_andV, v_orV, v_iteM, v_nilL, v_consL, v_tupM, v_lstM, v_callM, v_negM, v_ixM, v_lookV, v_vixM, v_vvxM, v_scal1, v_noE, v_someE, v_sliceM, v_revM, v_isiM, v_skipM, v_seqM, v_retM, v_dropM, v_ifM, v_putV, v_setM, v_puts0, v_puts1, v_parM, v_bindN, v_bindT, v_asgM, v_forM, v_valM, v_rng1M, v_rng2M, v_zipM, v_setKM, v_mutN, v_mutK, v_dispM, v_nilA, v_oA, v_bA, cmp_ne, cmp_eq, cmp_lt, cmp_gt, cmp_le, cmp_ge, bin_add, bin_sub, bin_mul, bin_mod, bin_div, O.share, truF, List.getElem?_cons_zero, List.getElem?_cons_succ, itemsD]) hsh hlim (by
        have hg : ∀ l : List Int, (l.map D.int).filterMap (fun d => match d with
          | .int n => some (O.sh (.int n.natAbs))
          | _ => none) = l.map fun n => O.sh (.int n.natAbs) := fun l => by
          induction l with
          | nil => rfl
          | cons n l ih => simp only [List.map_cons, List.filterMap_cons, ih]
        rw [← hg ns]
        refine lcL_map _ _ _ fun d hd => ?_
        obtain ⟨n, _, rfl⟩ := List.mem_map.mp hd
        refine ⟨[some (.sh (.scr ns)), some (.sh (.int m)), some (.sh (.int n))], by simp [v_bnd, v_ret, v_lift, v_bad, v_shr, v_own, v_getV, v_bin, v_cmpM, v_ofB, v_tru, v_notM, v_andM, v_orM, v_andV, v_orV, v_iteM, v_nilL, v_consL, v_tupM, v_lstM, v_callM, v_negM, v_ixM, v_lookV, v_vixM, v_vvxM, v_scal1, v_noE, v_someE, v_sliceM, v_revM, v_isiM, v_skipM, v_seqM, v_retM, v_dropM, v_ifM, v_putV, v_setM, v_puts0, v_puts1, v_parM, v_bindN, v_bindT, v_asgM, v_forM, v_valM, v_rng1M, v_rng2M, v_zipM, v_setKM, v_mutN, v_mutK, v_dispM, v_nilA, v_oA, v_bA, cmp_ne, cmp_eq, cmp_lt, cmp_gt, cmp_le, cmp_ge, bin_add, bin_sub, bin_mul, bin_mod, bin_div, O.share, truF, List.getElem?_cons_zero, List.getElem?_cons_succ, wipeE], true, _, rfl, .inr ⟨rfl, .sh (.int n.natAbs), [some (.sh (.scr ns)), some (.sh (.int m)), some (.sh (.int n))], ?_, rfl, rfl⟩⟩
        simp [v_bnd, v_ret, v_lift, v_bad, v_shr, v_own, v_getV, v_bin, v_cmpM, v_ofB, v_tru, v_notM, v_andM, v_orM, v_andV, v_orV, v_iteM, v_nilL, v_consL, v_tupM, v_lstM, v_callM, v_negM, v_ixM, v_lookV, v_vixM, v_vvxM, v_scal1, v_noE, v_someE, v_sliceM, v_revM, v_isiM, v_skipM, v_seqM, v_retM, v_dropM, v_ifM, v_putV, v_setM, v_puts0, v_puts1, v_parM, v_bindN, v_bindT, v_asgM, v_forM, v_valM, v_rng1M, v_rng2M, v_zipM, v_setKM, v_mutN, v_mutK, v_dispM, v_nilA, v_oA, v_bA, cmp_ne, cmp_eq, cmp_lt, cmp_gt, cmp_le, cmp_ge, bin_add, bin_sub, bin_mul, bin_mod, bin_div, O.share, truF, List.getElem?_cons_zero, List.getElem?_cons_succ, absF, abs_nat])
    rw [hv, hb]
  refine ⟨⟨(ns.map fun n => ((n.natAbs : Nat) : Int)).reverse, 1, m, 0⟩, by simpa using hl, ?_⟩
  have hr : revF (O.share (.lst (ns.map fun n => O.sh (.int n.natAbs)))) = some (.lst ((ns.map fun n => ((n.natAbs : Nat) : Int)).reverse.map fun n => O.sh (.int n))) := by
    have hs : O.shares (ns.map fun n => O.sh (.int n.natAbs)) = ns.map fun n => D.int n.natAbs := by
      rw [O.shares_map, List.map_map]
      rfl
    simp only [O.share, hs, revF, List.map_reverse, List.map_map]
    rfl
  have hi : itemsD (.scr ns) = some (ns.map .int) := rfl
  unfold b_10
  simp [O.share] at hr
  simp [v_bnd, v_ret, v_lift, v_bad, v_shr, v_own, v_getV, v_bin, v_cmpM, v_ofB, v_tru, v_notM, v_andM, v_orM, v_andV, v_orV, v_iteM, v_nilL, v_consL, v_tupM, v_lstM, v_callM, v_negM, v_ixM, v_lookV, v_vixM, v_vvxM, v_scal1, v_noE, v_someE, v_sliceM, v_revM, v_isiM, v_skipM, v_seqM, v_retM, v_dropM, v_ifM, v_putV, v_setM, v_puts0, v_puts1, v_parM, v_bindN, v_bindT, v_asgM, v_forM, v_valM, v_rng1M, v_rng2M, v_zipM, v_setKM, v_mutN, v_mutK, v_dispM, v_nilA, v_oA, v_bA, cmp_ne, cmp_eq, cmp_lt, cmp_gt, cmp_le, cmp_ge, bin_add, bin_sub, bin_mul, bin_mod, bin_div, O.share, truF, List.getElem?_cons_zero, List.getElem?_cons_succ, hi, h, comp, hr, Src.o]
end La
end
section
namespace La
open Mp
abbrev E (ns : List Int) (s : Src) (a2 a3 a4 a5 a6 a7 a8 a9 a10 a11 a12 : Option O) : Env := [some (.sh (.scr ns)), some s.o, a2, a3, a4, a5, a6, a7, a8, a9, a10, a11, a12, none]
theorem low_self {b : Int} (hb : b ≠ 0) : low b b = (1, 1) := by
  have h := low_scale (a := 1) (b := 1) (c := b) (by decide) hb
  rw [Int.one_mul] at h
  rw [h]
  decide
theorem low_gcd {a b : Int} (hb : b ≠ 0) : Nat.gcd (low a b).1.natAbs (low a b).2.natAbs = 1 := by
  have h1 := congrArg Int.natAbs (low_l a b)
  have h2 := congrArg Int.natAbs (low_r a b)
  rw [Int.natAbs_mul, sgd_abs] at h1 h2
  have hg := gcd_pos' (a := a) hb
  have h3 : Nat.gcd a.natAbs b.natAbs = Nat.gcd a.natAbs b.natAbs * Nat.gcd (low a b).1.natAbs (low a b).2.natAbs := by
    have h4 := Nat.gcd_mul_left (Nat.gcd a.natAbs b.natAbs) (low a b).1.natAbs (low a b).2.natAbs
    rw [← h1, ← h2] at h4
    exact h4
  have h5 : Nat.gcd a.natAbs b.natAbs * 1 = Nat.gcd a.natAbs b.natAbs * Nat.gcd (low a b).1.natAbs (low a b).2.natAbs := by omega
  exact (Nat.eq_of_mul_eq_mul_left hg h5).symm
theorem b5_true {FU : Nat} (hF : 18001 ≤ FU) {a b : Int} (hb : 1 ≤ b) (hg : Nat.gcd a.natAbs b.natAbs = 1) (hs : Small b) : ∃ e, b_5 FU [some (.sh (fr a b))] = (.ok (.rt (.sh (.bl true))), e) := by
  obtain ⟨e1, g1⟩ := b1_ok (FU := FU) (k := 9000) hF a b hs
  obtain ⟨ex, hx0⟩ := b0_ok (FU := FU) (.int a) rfl
  obtain ⟨ey, hy0⟩ := b0_ok (FU := FU) (.int b) rfl
  unfold b_5
  simp [v_bnd, v_ret, v_lift, v_bad, v_shr, v_own, v_getV, v_bin, v_cmpM, v_ofB, v_tru, v_notM, v_andM, v_orM, v_andV, v_orV, v_iteM, v_nilL, v_consL, v_tupM, v_lstM, v_callM, v_negM, v_ixM, v_lookV, v_vixM, v_vvxM, v_scal1, v_noE, v_someE, v_sliceM, v_revM, v_isiM, v_skipM, v_seqM, v_retM, v_dropM, v_ifM, v_putV, v_setM, v_puts0, v_puts1, v_parM, v_bindN, v_bindT, v_asgM, v_forM, v_valM, v_rng1M, v_rng2M, v_zipM, v_setKM, v_mutN, v_mutK, v_dispM, v_nilA, v_oA, v_bA, cmp_ne, cmp_eq, cmp_lt, cmp_gt, cmp_le, cmp_ge, bin_add, bin_sub, bin_mul, bin_mod, bin_div, O.share, truF, List.getElem?_cons_zero, List.getElem?_cons_succ, isi_t, len_t, v_callF, takeA, backA, startE, pr0, pr1, hx0, hy0, isI, g1, hb, hg]
variable {FU : Nat} {ns : List Int} {a2 a3 a4 a5 a6 a7 a8 a9 a10 a11 a12 : Option O}
theorem t0 (hl : ns.length ≤ 63) : ∃ s : Src, s.cells.length ≤ 63 ∧ (setM 1 (callF N_10.length (b_10 FU) (oA (own (getV 0)) (nilA)))) [some (.sh (.scr ns)), none, none, none, none, none, none, none, none, none, none, none, none, none] = (.ok .nx, E ns s none none none none none none none none none none none) := by
  obtain ⟨s, hs, e, h⟩ := source_ok (FU := FU) ns hl
  refine ⟨s, hs, ?_⟩
  simp [v_bnd, v_ret, v_lift, v_bad, v_shr, v_own, v_getV, v_bin, v_cmpM, v_ofB, v_tru, v_notM, v_andM, v_orM, v_andV, v_orV, v_iteM, v_nilL, v_consL, v_tupM, v_lstM, v_callM, v_negM, v_ixM, v_lookV, v_vixM, v_vvxM, v_scal1, v_noE, v_someE, v_sliceM, v_revM, v_isiM, v_skipM, v_seqM, v_retM, v_dropM, v_ifM, v_putV, v_setM, v_puts0, v_puts1, v_parM, v_bindN, v_bindT, v_asgM, v_forM, v_valM, v_rng1M, v_rng2M, v_zipM, v_setKM, v_mutN, v_mutK, v_dispM, v_nilA, v_oA, v_bA, cmp_ne, cmp_eq, cmp_lt, cmp_gt, cmp_le, cmp_ge, bin_add, bin_sub, bin_mul, bin_mod, bin_div, O.share, truF, List.getElem?_cons_zero, List.getElem?_cons_succ, v_callF, takeA, backA, startE, h]
theorem t1 (hF : 18001 ≤ FU) (s : Src) (hs : s.cells.length ≤ 63) : ∃ (x y : Int) (s' : Src), Num x ∧ Num y ∧ s'.cells.length ≤ 63 ∧ (parM [8, 3] (consL (callF N_14.length (b_14 FU) (bA 1 (nilA))) (consL (callF N_14.length (b_14 FU) (bA 1 (nilA))) (nilL)))) (E ns s a2 a3 a4 a5 a6 a7 a8 a9 a10 a11 a12) = (.ok .nx, E ns s' a2 (some (.sh (.int y))) a4 a5 a6 a7 (some (.sh (.int x))) a9 a10 a11 a12) := by
  obtain ⟨x, s1', n1, c1, e1, h1⟩ := number_ok hF s hs
  obtain ⟨y, s2, n2, c2, e2, h2⟩ := number_ok hF s1' c1
  refine ⟨x, y, s2, n1, n2, c2, ?_⟩
  simp [v_bnd, v_ret, v_lift, v_bad, v_shr, v_own, v_getV, v_bin, v_cmpM, v_ofB, v_tru, v_notM, v_andM, v_orM, v_andV, v_orV, v_iteM, v_nilL, v_consL, v_tupM, v_lstM, v_callM, v_negM, v_ixM, v_lookV, v_vixM, v_vvxM, v_scal1, v_noE, v_someE, v_sliceM, v_revM, v_isiM, v_skipM, v_seqM, v_retM, v_dropM, v_ifM, v_putV, v_setM, v_puts0, v_puts1, v_parM, v_bindN, v_bindT, v_asgM, v_forM, v_valM, v_rng1M, v_rng2M, v_zipM, v_setKM, v_mutN, v_mutK, v_dispM, v_nilA, v_oA, v_bA, cmp_ne, cmp_eq, cmp_lt, cmp_gt, cmp_le, cmp_ge, bin_add, bin_sub, bin_mul, bin_mod, bin_div, O.share, truF, List.getElem?_cons_zero, List.getElem?_cons_succ, v_callF, takeA, backA, startE, h1, h2]
theorem t2 (s : Src) (y : Int) (ny : Num y) : ∃ z : Int, z ≠ 0 ∧ Num z ∧ (setM 3 (iteM (cmpM (cmpF .NotEq) (getV 3) (Mp.ret (.int 0))) (own (getV 3)) (own (negM (Mp.ret (.int 6)))))) (E ns s a2 (some (.sh (.int y))) a4 a5 a6 a7 a8 a9 a10 a11 a12) = (.ok .nx, E ns s a2 (some (.sh (.int z))) a4 a5 a6 a7 a8 a9 a10 a11 a12) := by
  by_cases hy : y = 0
  · refine ⟨-6, by decide, by show _ ≤ _; decide, ?_⟩
    subst hy
    simp [v_bnd, v_ret, v_lift, v_bad, v_shr, v_own, v_getV, v_bin, v_cmpM, v_ofB, v_tru, v_notM, v_andM, v_orM, v_andV, v_orV, v_iteM, v_nilL, v_consL, v_tupM, v_lstM, v_callM, v_negM, v_ixM, v_lookV, v_vixM, v_vvxM, v_scal1, v_noE, v_someE, v_sliceM, v_revM, v_isiM, v_skipM, v_seqM, v_retM, v_dropM, v_ifM, v_putV, v_setM, v_puts0, v_puts1, v_parM, v_bindN, v_bindT, v_asgM, v_forM, v_valM, v_rng1M, v_rng2M, v_zipM, v_setKM, v_mutN, v_mutK, v_dispM, v_nilA, v_oA, v_bA, cmp_ne, cmp_eq, cmp_lt, cmp_gt, cmp_le, cmp_ge, bin_add, bin_sub, bin_mul, bin_mod, bin_div, O.share, truF, List.getElem?_cons_zero, List.getElem?_cons_succ]
  · refine ⟨y, hy, ny, ?_⟩
    simp [v_bnd, v_ret, v_lift, v_bad, v_shr, v_own, v_getV, v_bin, v_cmpM, v_ofB, v_tru, v_notM, v_andM, v_orM, v_andV, v_orV, v_iteM, v_nilL, v_consL, v_tupM, v_lstM, v_callM, v_negM, v_ixM, v_lookV, v_vixM, v_vvxM, v_scal1, v_noE, v_someE, v_sliceM, v_revM, v_isiM, v_skipM, v_seqM, v_retM, v_dropM, v_ifM, v_putV, v_setM, v_puts0, v_puts1, v_parM, v_bindN, v_bindT, v_asgM, v_forM, v_valM, v_rng1M, v_rng2M, v_zipM, v_setKM, v_mutN, v_mutK, v_dispM, v_nilA, v_oA, v_bA, cmp_ne, cmp_eq, cmp_lt, cmp_gt, cmp_le, cmp_ge, bin_add, bin_sub, bin_mul, bin_mod, bin_div, O.share, truF, List.getElem?_cons_zero, List.getElem?_cons_succ, hy]
theorem t3 (hF : 18001 ≤ FU) (s : Src) (x z : Int) (hz : z ≠ 0) (nz : Num z) : (ifM (orM (cmpM (cmpF .NotEq) (shr (callF N_2.length (b_2 FU) (oA (own (getV 8)) (oA (own (getV 3)) (nilA))))) (shr (callF N_9.length (b_9 FU) (oA (own (getV 8)) (oA (own (getV 3)) (nilA)))))) (orM (notM (tru (shr (callF N_5.length (b_5 FU) (oA (own (shr (callF N_2.length (b_2 FU) (oA (own (getV 8)) (oA (own (getV 3)) (nilA)))))) (nilA)))))) (cmpM (cmpF .NotEq) (shr (callF N_2.length (b_2 FU) (oA (own (getV 3)) (oA (own (getV 3)) (nilA))))) (tupM (consL (Mp.ret (.int 1)) (consL (Mp.ret (.int 1)) (nilL))))))) (retM (own (Mp.ret (.bl false)))) (skipM)) (E ns s a2 (some (.sh (.int z))) a4 a5 a6 a7 (some (.sh (.int x))) a9 a10 a11 a12) = (.ok .nx, E ns s a2 (some (.sh (.int z))) a4 a5 a6 a7 (some (.sh (.int x))) a9 a10 a11 a12) := by
  have sz := num_small nz
  obtain ⟨e1, h1⟩ := b2_ok hF x z hz sz
  obtain ⟨e2, h2⟩ := b9_ok hF x z hz sz
  obtain ⟨e3, h3⟩ := b2_ok hF z z hz sz
  obtain ⟨e4, h4⟩ := b5_true hF (a := (low x z).1) (b := (low x z).2) (by have := low_pos (a := x) hz; omega) (low_gcd hz) (small_le (Nat.le_trans (low_le_r hz) nz) (by decide +kernel))
  rw [low_self hz] at h3
  have n1 := ne_fr (a := (low x z).1) (b := (low x z).2) (c := (low x z).1) (d := (low x z).2)
  have n2 := ne_fr (a := 1) (b := 1) (c := 1) (d := 1)
  simp at n1 n2
  simp [v_bnd, v_ret, v_lift, v_bad, v_shr, v_own, v_getV, v_bin, v_cmpM, v_ofB, v_tru, v_notM, v_andM, v_orM, v_andV, v_orV, v_iteM, v_nilL, v_consL, v_tupM, v_lstM, v_callM, v_negM, v_ixM, v_lookV, v_vixM, v_vvxM, v_scal1, v_noE, v_someE, v_sliceM, v_revM, v_isiM, v_skipM, v_seqM, v_retM, v_dropM, v_ifM, v_putV, v_setM, v_puts0, v_puts1, v_parM, v_bindN, v_bindT, v_asgM, v_forM, v_valM, v_rng1M, v_rng2M, v_zipM, v_setKM, v_mutN, v_mutK, v_dispM, v_nilA, v_oA, v_bA, cmp_ne, cmp_eq, cmp_lt, cmp_gt, cmp_le, cmp_ge, bin_add, bin_sub, bin_mul, bin_mod, bin_div, O.share, truF, List.getElem?_cons_zero, List.getElem?_cons_succ, v_callF, takeA, backA, startE, lim, h1, h2, h3, h4, n1, n2]
theorem t4 (hF : 18001 ≤ FU) (s : Src) (hs : s.cells.length ≤ 63) : ∃ (p q u v : Int) (s' : Src), Num p ∧ Num q ∧ 0 < q ∧ Num u ∧ Num v ∧ 0 < v ∧ s'.cells.length ≤ 63 ∧ (parM [9, 10] (consL (callF N_15.length (b_15 FU) (bA 1 (nilA))) (consL (callF N_15.length (b_15 FU) (bA 1 (nilA))) (nilL)))) (E ns s a2 a3 a4 a5 a6 a7 a8 a9 a10 a11 a12) = (.ok .nx, E ns s' a2 a3 a4 a5 a6 a7 a8 (some (.sh (fr p q))) (some (.sh (fr u v))) a11 a12) := by
  obtain ⟨p, q, s1', n1, n2, q0, c1, e1, h1⟩ := drawn_ok hF s hs
  obtain ⟨u, v, s2, n3, n4, v0, c2, e2, h2⟩ := drawn_ok hF s1' c1
  refine ⟨p, q, u, v, s2, n1, n2, q0, n3, n4, v0, c2, ?_⟩
  simp [v_bnd, v_ret, v_lift, v_bad, v_shr, v_own, v_getV, v_bin, v_cmpM, v_ofB, v_tru, v_notM, v_andM, v_orM, v_andV, v_orV, v_iteM, v_nilL, v_consL, v_tupM, v_lstM, v_callM, v_negM, v_ixM, v_lookV, v_vixM, v_vvxM, v_scal1, v_noE, v_someE, v_sliceM, v_revM, v_isiM, v_skipM, v_seqM, v_retM, v_dropM, v_ifM, v_putV, v_setM, v_puts0, v_puts1, v_parM, v_bindN, v_bindT, v_asgM, v_forM, v_valM, v_rng1M, v_rng2M, v_zipM, v_setKM, v_mutN, v_mutK, v_dispM, v_nilA, v_oA, v_bA, cmp_ne, cmp_eq, cmp_lt, cmp_gt, cmp_le, cmp_ge, bin_add, bin_sub, bin_mul, bin_mod, bin_div, O.share, truF, List.getElem?_cons_zero, List.getElem?_cons_succ, v_callF, takeA, backA, startE, h1, h2]
theorem num_mul {a b : Int} (ha : Num a) (hb : Num b) : Small (a * b) := small_le (mul_le' ha hb) (by decide +kernel)
theorem t5 (hF : 18001 ≤ FU) (s : Src) (p q u v : Int) (np : Num p) (nq : Num q) (q0 : 0 < q) (nu : Num u) (nv : Num v) (v0 : 0 < v) : (ifM (cmpM (cmpF .NotEq) (shr (callF N_3.length (b_3 FU) (oA (own (getV 9)) (oA (own (getV 10)) (nilA))))) (shr (callF N_9.length (b_9 FU) (oA (own (shr (Mp.bin (binF .Add) (shr (Mp.bin (binF .Mult) (vixM 9 (Mp.ret (.int 0))) (vixM 10 (Mp.ret (.int 1))))) (shr (Mp.bin (binF .Mult) (vixM 10 (Mp.ret (.int 0))) (vixM 9 (Mp.ret (.int 1)))))))) (oA (own (shr (Mp.bin (binF .Mult) (vixM 9 (Mp.ret (.int 1))) (vixM 10 (Mp.ret (.int 1)))))) (nilA)))))) (retM (own (Mp.ret (.bl false)))) (skipM)) (E ns s a2 a3 a4 a5 a6 a7 a8 (some (.sh (fr p q))) (some (.sh (fr u v))) a11 a12) = (.ok .nx, E ns s a2 a3 a4 a5 a6 a7 a8 (some (.sh (fr p q))) (some (.sh (fr u v))) a11 a12) := by
  have hqv : q * v ≠ 0 := Int.mul_ne_zero (by omega) (by omega)
  obtain ⟨e1, h1⟩ := b3_ok hF p q u v (num_small np) (num_small nq) (num_small nu) (num_small nv) hqv (num_mul nq nv)
  obtain ⟨e2, h2⟩ := b9_ok hF (p * v + u * q) (q * v) hqv (num_mul nq nv)
  have n1 := ne_fr (a := (low (p * v + u * q) (q * v)).1) (b := (low (p * v + u * q) (q * v)).2) (c := (low (p * v + u * q) (q * v)).1) (d := (low (p * v + u * q) (q * v)).2)
  simp at n1
  simp [v_bnd, v_ret, v_lift, v_bad, v_shr, v_own, v_getV, v_bin, v_cmpM, v_ofB, v_tru, v_notM, v_andM, v_orM, v_andV, v_orV, v_iteM, v_nilL, v_consL, v_tupM, v_lstM, v_callM, v_negM, v_ixM, v_lookV, v_vixM, v_vvxM, v_scal1, v_noE, v_someE, v_sliceM, v_revM, v_isiM, v_skipM, v_seqM, v_retM, v_dropM, v_ifM, v_putV, v_setM, v_puts0, v_puts1, v_parM, v_bindN, v_bindT, v_asgM, v_forM, v_valM, v_rng1M, v_rng2M, v_zipM, v_setKM, v_mutN, v_mutK, v_dispM, v_nilA, v_oA, v_bA, cmp_ne, cmp_eq, cmp_lt, cmp_gt, cmp_le, cmp_ge, bin_add, bin_sub, bin_mul, bin_mod, bin_div, O.share, truF, List.getElem?_cons_zero, List.getElem?_cons_succ, v_callF, takeA, backA, startE, lim, at0, at1, mul_small, num_small, np, nq, nu, nv, h1, h2, n1]
theorem t6 (hF : 18001 ≤ FU) (s : Src) (p q u v : Int) (np : Num p) (nq : Num q) (q0 : 0 < q) (nu : Num u) (nv : Num v) (v0 : 0 < v) : (ifM (cmpM (cmpF .NotEq) (shr (callF N_4.length (b_4 FU) (oA (own (getV 9)) (oA (own (getV 10)) (nilA))))) (shr (callF N_9.length (b_9 FU) (oA (own (shr (Mp.bin (binF .Mult) (vixM 9 (Mp.ret (.int 0))) (vixM 10 (Mp.ret (.int 0)))))) (oA (own (shr (Mp.bin (binF .Mult) (vixM 9 (Mp.ret (.int 1))) (vixM 10 (Mp.ret (.int 1)))))) (nilA)))))) (retM (own (Mp.ret (.bl false)))) (skipM)) (E ns s a2 a3 a4 a5 a6 a7 a8 (some (.sh (fr p q))) (some (.sh (fr u v))) a11 a12) = (.ok .nx, E ns s a2 a3 a4 a5 a6 a7 a8 (some (.sh (fr p q))) (some (.sh (fr u v))) a11 a12) := by
  have hqv : q * v ≠ 0 := Int.mul_ne_zero (by omega) (by omega)
  obtain ⟨e1, h1⟩ := b4_ok hF p q u v (num_small np) (num_small nq) (num_small nu) (num_small nv) hqv (num_mul nq nv)
  obtain ⟨e2, h2⟩ := b9_ok hF (p * u) (q * v) hqv (num_mul nq nv)
  have n1 := ne_fr (a := (low (p * u) (q * v)).1) (b := (low (p * u) (q * v)).2) (c := (low (p * u) (q * v)).1) (d := (low (p * u) (q * v)).2)
  simp at n1
  simp [v_bnd, v_ret, v_lift, v_bad, v_shr, v_own, v_getV, v_bin, v_cmpM, v_ofB, v_tru, v_notM, v_andM, v_orM, v_andV, v_orV, v_iteM, v_nilL, v_consL, v_tupM, v_lstM, v_callM, v_negM, v_ixM, v_lookV, v_vixM, v_vvxM, v_scal1, v_noE, v_someE, v_sliceM, v_revM, v_isiM, v_skipM, v_seqM, v_retM, v_dropM, v_ifM, v_putV, v_setM, v_puts0, v_puts1, v_parM, v_bindN, v_bindT, v_asgM, v_forM, v_valM, v_rng1M, v_rng2M, v_zipM, v_setKM, v_mutN, v_mutK, v_dispM, v_nilA, v_oA, v_bA, cmp_ne, cmp_eq, cmp_lt, cmp_gt, cmp_le, cmp_ge, bin_add, bin_sub, bin_mul, bin_mod, bin_div, O.share, truF, List.getElem?_cons_zero, List.getElem?_cons_succ, v_callF, takeA, backA, startE, lim, at0, at1, mul_small, num_small, np, nq, nu, nv, h1, h2, n1]
theorem t7 (hF : 18001 ≤ FU) (s : Src) (hs : s.cells.length ≤ 63) : ∃ (r : Int) (s' : Src), 0 ≤ r ∧ r < 6 ∧ s'.cells.length ≤ 63 ∧ (setM 4 (callF N_7.length (b_7 FU) (bA 1 (oA (own (Mp.ret (.int 6))) (nilA))))) (E ns s a2 a3 a4 a5 a6 a7 a8 a9 a10 a11 a12) = (.ok .nx, E ns s' a2 a3 (some (.sh (.int r))) a5 a6 a7 a8 a9 a10 a11 a12) := by
  obtain ⟨r, s', e, r0, r1, c1, h⟩ := pick_ok hF s hs 6 (by decide) (by decide)
  refine ⟨r, s', r0, r1, c1, ?_⟩
  simp [v_bnd, v_ret, v_lift, v_bad, v_shr, v_own, v_getV, v_bin, v_cmpM, v_ofB, v_tru, v_notM, v_andM, v_orM, v_andV, v_orV, v_iteM, v_nilL, v_consL, v_tupM, v_lstM, v_callM, v_negM, v_ixM, v_lookV, v_vixM, v_vvxM, v_scal1, v_noE, v_someE, v_sliceM, v_revM, v_isiM, v_skipM, v_seqM, v_retM, v_dropM, v_ifM, v_putV, v_setM, v_puts0, v_puts1, v_parM, v_bindN, v_bindT, v_asgM, v_forM, v_valM, v_rng1M, v_rng2M, v_zipM, v_setKM, v_mutN, v_mutK, v_dispM, v_nilA, v_oA, v_bA, cmp_ne, cmp_eq, cmp_lt, cmp_gt, cmp_le, cmp_ge, bin_add, bin_sub, bin_mul, bin_mod, bin_div, O.share, truF, List.getElem?_cons_zero, List.getElem?_cons_succ, v_callF, takeA, backA, startE, h]
end La
end
section
namespace La
open Mp
variable {FU : Nat} {ns : List Int} {a2 a3 a4 a5 a6 a7 a8 a9 a10 a11 a12 : Option O}
theorem draw_row (hF : 18001 ≤ FU) (s : Src) (hs : s.cells.length ≤ 63) (r : Int) (r0 : 0 ≤ r) (r1 : r < 6) : ∃ (xs : List Int) (s' : Src), (∀ x ∈ xs, Num x) ∧ xs.length = r.toNat ∧ s'.cells.length ≤ 63 ∧
    lcM [13] (.nm 13) (Mp.ret true) (callF N_14.length (b_14 FU) (bA 1 (nilA))) (rng1M (consL (getV 4) (nilL))) (E ns s a2 a3 (some (.sh (.int r))) a5 a6 a7 a8 a9 a10 a11 a12) = (.ok (.lst (xs.map fun x => O.sh (.int x))), E ns s' a2 a3 (some (.sh (.int r))) a5 a6 a7 a8 a9 a10 a11 a12) := by
  have sm : small62 r = true := by unfold small62; simp; omega
  have hi : rng1M (consL (getV 4) nilL) (E ns s a2 a3 (some (.sh (.int r))) a5 a6 a7 a8 a9 a10 a11 a12) = (.ok (rngL 0 r.toNat), E ns s a2 a3 (some (.sh (.int r))) a5 a6 a7 a8 a9 a10 a11 a12) := by
    simp [v_bnd, v_ret, v_lift, v_bad, v_shr, v_own, v_getV, v_bin, v_cmpM, v_ofB, v_tru, v_notM, v_andM, v_orM, v_andV, v_orV, v_iteM, v_nilL, v_consL, v_tupM, v_lstM, v_callM, v_negM, v_ixM, v_lookV, v_vixM, v_vvxM, v_scal1, v_noE, v_someE, v_sliceM, v_revM, v_isiM, v_skipM, v_seqM, v_retM, v_dropM, v_ifM, v_putV, v_setM, v_puts0, v_puts1, v_parM, v_bindN, v_bindT, v_asgM, v_forM, v_valM, v_rng1M, v_rng2M, v_zipM, v_setKM, v_mutN, v_mutK, v_dispM, v_nilA, v_oA, v_bA, cmp_ne, cmp_eq, cmp_lt, cmp_gt, cmp_le, cmp_ge, bin_add, bin_sub, bin_mul, bin_mod, bin_div, O.share, truF, List.getElem?_cons_zero, List.getElem?_cons_succ, rng1F, sm]
  obtain ⟨os, e', h1, ⟨s', c', rfl⟩, hl, hq⟩ := lcL_inv (vs := [13]) (tg := .nm 13) (t := Mp.ret true) (m := callF N_14.length (b_14 FU) (bA 1 nilA)) (fun e => ∃ s' : Src, s'.cells.length ≤ 63 ∧ e = E ns s' a2 a3 (some (.sh (.int r))) a5 a6 a7 a8 a9 a10 a11 a12) (fun o => ∃ x, Num x ∧ o = .sh (.int x)) (rngL 0 r.toNat) (E ns s a2 a3 (some (.sh (.int r))) a5 a6 a7 a8 a9 a10 a11 a12) ⟨s, hs, rfl⟩ (by
    rintro d _ _ ⟨t, ct, rfl⟩
    obtain ⟨x, s1', n1, c1, e1, g1⟩ := number_ok hF t ct
    refine ⟨_, _, .sh (.int x), _, by simp [v_bnd, v_ret, v_lift, v_bad, v_shr, v_own, v_getV, v_bin, v_cmpM, v_ofB, v_tru, v_notM, v_andM, v_orM, v_andV, v_orV, v_iteM, v_nilL, v_consL, v_tupM, v_lstM, v_callM, v_negM, v_ixM, v_lookV, v_vixM, v_vvxM, v_scal1, v_noE, v_someE, v_sliceM, v_revM, v_isiM, v_skipM, v_seqM, v_retM, v_dropM, v_ifM, v_putV, v_setM, v_puts0, v_puts1, v_parM, v_bindN, v_bindT, v_asgM, v_forM, v_valM, v_rng1M, v_rng2M, v_zipM, v_setKM, v_mutN, v_mutK, v_dispM, v_nilA, v_oA, v_bA, cmp_ne, cmp_eq, cmp_lt, cmp_gt, cmp_le, cmp_ge, bin_add, bin_sub, bin_mul, bin_mod, bin_div, O.share, truF, List.getElem?_cons_zero, List.getElem?_cons_succ]; rfl, rfl, by simp [v_callF, v_bnd, v_ret, v_lift, v_bad, v_shr, v_own, v_getV, v_bin, v_cmpM, v_ofB, v_tru, v_notM, v_andM, v_orM, v_andV, v_orV, v_iteM, v_nilL, v_consL, v_tupM, v_lstM, v_callM, v_negM, v_ixM, v_lookV, v_vixM, v_vvxM, v_scal1, v_noE, v_someE, v_sliceM, v_revM, v_isiM, v_skipM, v_seqM, v_retM, v_dropM, v_ifM, v_putV, v_setM, v_puts0, v_puts1, v_parM, v_bindN, v_bindT, v_asgM, v_forM, v_valM, v_rng1M, v_rng2M, v_zipM, v_setKM, v_mutN, v_mutK, v_dispM, v_nilA, v_oA, v_bA, cmp_ne, cmp_eq, cmp_lt, cmp_gt, cmp_le, cmp_ge, bin_add, bin_sub, bin_mul, bin_mod, bin_div, O.share, truF, List.getElem?_cons_zero, List.getElem?_cons_succ, takeA, backA, startE, g1]; rfl, ⟨x, n1, rfl⟩, s1', c1, rfl⟩)
  have hlen : (rngL 0 r.toNat).length ≤ lim := by simp [rngL, lim]; omega
  have hv := v_lcM (tg := .nm 13) (t := Mp.ret true) (m := callF N_14.length (b_14 FU) (bA 1 nilA)) hi (vs := [13]) (e2 := E ns s a2 a3 (some (.sh (.int r))) a5 a6 a7 a8 a9 a10 a11 a12) rfl hlen h1
  have ho : ∀ os : List O, (∀ o ∈ os, ∃ x, Num x ∧ o = O.sh (.int x)) → ∃ xs : List Int, (∀ x ∈ xs, Num x) ∧ os = xs.map fun x => O.sh (.int x) := fun os => by
    induction os with
    | nil => exact fun _ => ⟨[], by simp, rfl⟩
    | cons o os ih =>
      intro h
      obtain ⟨x, nx, rfl⟩ := h o List.mem_cons_self
      obtain ⟨xs, hx, rfl⟩ := ih fun o ho => h o (List.mem_cons_of_mem _ ho)
      exact ⟨x :: xs, by simp; exact ⟨nx, hx⟩, rfl⟩
  obtain ⟨xs, hx, rfl⟩ := ho os hq
  refine ⟨xs, s', hx, by simpa [rngL] using hl, c', ?_⟩
  rw [hv]
  rfl
theorem draw_frs (hF : 18001 ≤ FU) (s : Src) (hs : s.cells.length ≤ 63) (r : Int) (r0 : 0 ≤ r) (r1 : r < 6) : ∃ (fs : List (Int × Int)) (s' : Src), (∀ f ∈ fs, Num f.1 ∧ Num f.2 ∧ 0 < f.2) ∧ fs.length = r.toNat ∧ s'.cells.length ≤ 63 ∧
    lcM [13] (.nm 13) (Mp.ret true) (callF N_15.length (b_15 FU) (bA 1 (nilA))) (rng1M (consL (getV 4) (nilL))) (E ns s a2 a3 (some (.sh (.int r))) a5 a6 a7 a8 a9 a10 a11 a12) = (.ok (.lst (fs.map fun f => O.sh (fr f.1 f.2))), E ns s' a2 a3 (some (.sh (.int r))) a5 a6 a7 a8 a9 a10 a11 a12) := by
  have sm : small62 r = true := by unfold small62; simp; omega
  have hi : rng1M (consL (getV 4) nilL) (E ns s a2 a3 (some (.sh (.int r))) a5 a6 a7 a8 a9 a10 a11 a12) = (.ok (rngL 0 r.toNat), E ns s a2 a3 (some (.sh (.int r))) a5 a6 a7 a8 a9 a10 a11 a12) := by
    simp [v_bnd, v_ret, v_lift, v_bad, v_shr, v_own, v_getV, v_bin, v_cmpM, v_ofB, v_tru, v_notM, v_andM, v_orM, v_andV, v_orV, v_iteM, v_nilL, v_consL, v_tupM, v_lstM, v_callM, v_negM, v_ixM, v_lookV, v_vixM, v_vvxM, v_scal1, v_noE, v_someE, v_sliceM, v_revM, v_isiM, v_skipM, v_seqM, v_retM, v_dropM, v_ifM, v_putV, v_setM, v_puts0, v_puts1, v_parM, v_bindN, v_bindT, v_asgM, v_forM, v_valM, v_rng1M, v_rng2M, v_zipM, v_setKM, v_mutN, v_mutK, v_dispM, v_nilA, v_oA, v_bA, cmp_ne, cmp_eq, cmp_lt, cmp_gt, cmp_le, cmp_ge, bin_add, bin_sub, bin_mul, bin_mod, bin_div, O.share, truF, List.getElem?_cons_zero, List.getElem?_cons_succ, rng1F, sm]
  obtain ⟨os, e', h1, ⟨s', c', rfl⟩, hl, hq⟩ := lcL_inv (vs := [13]) (tg := .nm 13) (t := Mp.ret true) (m := callF N_15.length (b_15 FU) (bA 1 nilA)) (fun e => ∃ s' : Src, s'.cells.length ≤ 63 ∧ e = E ns s' a2 a3 (some (.sh (.int r))) a5 a6 a7 a8 a9 a10 a11 a12) (fun o => ∃ f : Int × Int, (Num f.1 ∧ Num f.2 ∧ 0 < f.2) ∧ o = .sh (fr f.1 f.2)) (rngL 0 r.toNat) (E ns s a2 a3 (some (.sh (.int r))) a5 a6 a7 a8 a9 a10 a11 a12) ⟨s, hs, rfl⟩ (by
    rintro d _ _ ⟨t, ct, rfl⟩
    obtain ⟨x, y, s1', n1, n2, y0, c1, e1, g1⟩ := drawn_ok hF t ct
    refine ⟨_, _, .sh (fr x y), _, by simp [v_bnd, v_ret, v_lift, v_bad, v_shr, v_own, v_getV, v_bin, v_cmpM, v_ofB, v_tru, v_notM, v_andM, v_orM, v_andV, v_orV, v_iteM, v_nilL, v_consL, v_tupM, v_lstM, v_callM, v_negM, v_ixM, v_lookV, v_vixM, v_vvxM, v_scal1, v_noE, v_someE, v_sliceM, v_revM, v_isiM, v_skipM, v_seqM, v_retM, v_dropM, v_ifM, v_putV, v_setM, v_puts0, v_puts1, v_parM, v_bindN, v_bindT, v_asgM, v_forM, v_valM, v_rng1M, v_rng2M, v_zipM, v_setKM, v_mutN, v_mutK, v_dispM, v_nilA, v_oA, v_bA, cmp_ne, cmp_eq, cmp_lt, cmp_gt, cmp_le, cmp_ge, bin_add, bin_sub, bin_mul, bin_mod, bin_div, O.share, truF, List.getElem?_cons_zero, List.getElem?_cons_succ]; rfl, rfl, by simp [v_callF, v_bnd, v_ret, v_lift, v_bad, v_shr, v_own, v_getV, v_bin, v_cmpM, v_ofB, v_tru, v_notM, v_andM, v_orM, v_andV, v_orV, v_iteM, v_nilL, v_consL, v_tupM, v_lstM, v_callM, v_negM, v_ixM, v_lookV, v_vixM, v_vvxM, v_scal1, v_noE, v_someE, v_sliceM, v_revM, v_isiM, v_skipM, v_seqM, v_retM, v_dropM, v_ifM, v_putV, v_setM, v_puts0, v_puts1, v_parM, v_bindN, v_bindT, v_asgM, v_forM, v_valM, v_rng1M, v_rng2M, v_zipM, v_setKM, v_mutN, v_mutK, v_dispM, v_nilA, v_oA, v_bA, cmp_ne, cmp_eq, cmp_lt, cmp_gt, cmp_le, cmp_ge, bin_add, bin_sub, bin_mul, bin_mod, bin_div, O.share, truF, List.getElem?_cons_zero, List.getElem?_cons_succ, takeA, backA, startE, g1]; rfl, ⟨(x, y), ⟨n1, n2, y0⟩, rfl⟩, s1', c1, rfl⟩)
  have hlen : (rngL 0 r.toNat).length ≤ lim := by simp [rngL, lim]; omega
  have hv := v_lcM (tg := .nm 13) (t := Mp.ret true) (m := callF N_15.length (b_15 FU) (bA 1 nilA)) hi (vs := [13]) (e2 := E ns s a2 a3 (some (.sh (.int r))) a5 a6 a7 a8 a9 a10 a11 a12) rfl hlen h1
  have ho : ∀ os : List O, (∀ o ∈ os, ∃ f : Int × Int, (Num f.1 ∧ Num f.2 ∧ 0 < f.2) ∧ o = O.sh (fr f.1 f.2)) → ∃ fs : List (Int × Int), (∀ f ∈ fs, Num f.1 ∧ Num f.2 ∧ 0 < f.2) ∧ os = fs.map fun f => O.sh (fr f.1 f.2) := fun os => by
    induction os with
    | nil => exact fun _ => ⟨[], by simp, rfl⟩
    | cons o os ih =>
      intro h
      obtain ⟨x, nx, rfl⟩ := h o List.mem_cons_self
      obtain ⟨xs, hx, rfl⟩ := ih fun o ho => h o (List.mem_cons_of_mem _ ho)
      refine ⟨x :: xs, fun f hf => ?_, rfl⟩
      rcases List.mem_cons.mp hf with rfl | hf
      · exact nx
      · exact hx f hf
  obtain ⟨fs, hx, rfl⟩ := ho os hq
  refine ⟨fs, s', hx, by simpa [rngL] using hl, c', ?_⟩
  rw [hv]
  rfl
theorem zip_row (xs : List Int) (fs : List (Int × Int)) (h : xs.length = fs.length) : rowD (xs.zip fs) = xs.map D.int ∧ frD (xs.zip fs) = fs.map fun f => fr f.1 f.2 := by
  induction xs generalizing fs with
  | nil =>
    cases fs with
    | nil => exact ⟨rfl, rfl⟩
    | cons f fs => simp at h
  | cons x xs ih =>
    cases fs with
    | nil => simp at h
    | cons f fs =>
      obtain ⟨h1, h2⟩ := ih fs (by simpa using h)
      exact ⟨by simp only [rowD, List.zip_cons_cons, List.map_cons] at h1 ⊢; rw [h1], by simp only [frD, List.zip_cons_cons, List.map_cons] at h2 ⊢; rw [h2]⟩
theorem t8 (hF : 18001 ≤ FU) (s : Src) (hs : s.cells.length ≤ 63) (r : Int) (r0 : 0 ≤ r) (r1 : r < 6) : ∃ (l : List (Int × (Int × Int))) (s' : Src), (∀ z ∈ l, Okf z) ∧ l.length ≤ 6 ∧ s'.cells.length ≤ 63 ∧
    (parM [11, 12] (consL (callM tupleF (consL (shr (lcM ([("_law_k", 13)].map (fun p => p.2)) (.nm 13) (Mp.ret true) (callF N_14.length (b_14 FU) (bA 1 (nilA))) (rng1M (consL (getV 4) (nilL))))) nilL)) (consL (lcM ([("_law_k", 13)].map (fun p => p.2)) (.nm 13) (Mp.ret true) (callF N_15.length (b_15 FU) (bA 1 (nilA))) (rng1M (consL (getV 4) (nilL)))) (nilL)))) (E ns s a2 a3 (some (.sh (.int r))) a5 a6 a7 a8 a9 a10 a11 a12) = (.ok .nx, E ns s' a2 a3 (some (.sh (.int r))) a5 a6 a7 a8 a9 a10 (some (.sh (.tup (rowD l)))) (some (.lst ((frD l).map .sh)))) := by
  obtain ⟨xs, s1', hx, lx, c1, h1⟩ := draw_row (ns := ns) (a2 := a2) (a3 := a3) (a5 := a5) (a6 := a6) (a7 := a7) (a8 := a8) (a9 := a9) (a10 := a10) (a11 := a11) (a12 := a12) hF s hs r r0 r1
  obtain ⟨fs, s2, hf, lf, c2, h2⟩ := draw_frs (ns := ns) (a2 := a2) (a3 := a3) (a5 := a5) (a6 := a6) (a7 := a7) (a8 := a8) (a9 := a9) (a10 := a10) (a11 := a11) (a12 := a12) hF s1' c1 r r0 r1
  obtain ⟨z1, z2⟩ := zip_row xs fs (by omega)
  refine ⟨xs.zip fs, s2, fun z hz => ?_, by rw [List.length_zip]; omega, c2, ?_⟩
  · obtain ⟨m1, m2⟩ := List.of_mem_zip (a := z.1) (b := z.2) hz
    have n1 := hx _ m1
    obtain ⟨n2, n3, n4⟩ := hf _ m2
    have k : ∀ {x : Int}, Num x → x.natAbs ≤ 10 ^ 40 := fun h => Nat.le_trans h (by decide)
    exact ⟨k n1, k n2, k n3, by omega⟩
  · rw [z1, z2]
    have hsh : O.shares (xs.map fun x => O.sh (.int x)) = xs.map D.int := by
      rw [O.shares_map, List.map_map]
      rfl
    have ht : tupleF [.lst (xs.map D.int)] = some (.sh (.tup (xs.map D.int))) := rfl
    simp [E] at h1 h2
    simp [v_bnd, v_ret, v_lift, v_bad, v_shr, v_own, v_getV, v_bin, v_cmpM, v_ofB, v_tru, v_notM, v_andM, v_orM, v_andV, v_orV, v_iteM, v_nilL, v_consL, v_tupM, v_lstM, v_callM, v_negM, v_ixM, v_lookV, v_vixM, v_vvxM, v_scal1, v_noE, v_someE, v_sliceM, v_revM, v_isiM, v_skipM, v_seqM, v_retM, v_dropM, v_ifM, v_putV, v_setM, v_puts0, v_puts1, v_parM, v_bindN, v_bindT, v_asgM, v_forM, v_valM, v_rng1M, v_rng2M, v_zipM, v_setKM, v_mutN, v_mutK, v_dispM, v_nilA, v_oA, v_bA, cmp_ne, cmp_eq, cmp_lt, cmp_gt, cmp_le, cmp_ge, bin_add, bin_sub, bin_mul, bin_mod, bin_div, O.share, truF, List.getElem?_cons_zero, List.getElem?_cons_succ, h1, h2, hsh, ht]
end La
end
section
namespace La
open Mp
variable {FU : Nat} {ns : List Int} {a2 a3 a4 a5 a6 a7 a8 a9 a10 a11 a12 : Option O}
theorem t10 (hF : 18001 ≤ FU) (s : Src) (hs : s.cells.length ≤ 63) : ∃ (d : D) (s' : Src), d ∈ odds ∧ s'.cells.length ≤ 63 ∧ (setM 5 (callF N_12.length (b_12 FU) (bA 1 (nilA)))) (E ns s a2 a3 a4 a5 a6 a7 a8 a9 a10 a11 a12) = (.ok .nx, E ns s' a2 a3 a4 (some (.sh d)) a6 a7 a8 a9 a10 a11 a12) := by
  obtain ⟨d, s', hd, c', e, h⟩ := odd_ok hF s hs
  refine ⟨d, s', hd, c', ?_⟩
  simp [v_bnd, v_ret, v_lift, v_bad, v_shr, v_own, v_getV, v_bin, v_cmpM, v_ofB, v_tru, v_notM, v_andM, v_orM, v_andV, v_orV, v_iteM, v_nilL, v_consL, v_tupM, v_lstM, v_callM, v_negM, v_ixM, v_lookV, v_vixM, v_vvxM, v_scal1, v_noE, v_someE, v_sliceM, v_revM, v_isiM, v_skipM, v_seqM, v_retM, v_dropM, v_ifM, v_putV, v_setM, v_puts0, v_puts1, v_parM, v_bindN, v_bindT, v_asgM, v_forM, v_valM, v_rng1M, v_rng2M, v_zipM, v_setKM, v_mutN, v_mutK, v_dispM, v_nilA, v_oA, v_bA, cmp_ne, cmp_eq, cmp_lt, cmp_gt, cmp_le, cmp_ge, bin_add, bin_sub, bin_mul, bin_mod, bin_div, O.share, truF, List.getElem?_cons_zero, List.getElem?_cons_succ, v_callF, takeA, backA, startE, h]
def near (p q : Int) (d : D) : List D := [fr p q, .lst [.int p, .int q], .tup [.int p, .int q, .int 1], .tup [.int p], fr (p * 2) (q * 2), fr p (0 - q), .tup [d, .int 1], .tup [.int 1, d], d, .tup [.bl true, .int 1], fr 0 2]
def tail (p q : Int) : List D := [fr 0 1, fr 1 0, fr 0 0, .tup [.int 1, .bl true], .tup [fr p q, .int 1], .non, .tup [.str s7, .int 1], fr (-3) 2, fr 1000000000000000000000000000000 1000000000000000000000000000000]
theorem t11 (s : Src) (p q : Int) (d : D) : (setM 6 (lstM (consL (getV 9) (consL (shr (callM listF (consL (getV 9) nilL))) (consL (shr (Mp.bin (binF .Add) (getV 9) (tupM (consL (Mp.ret (.int 1)) (nilL))))) (consL (shr (sliceM (getV 9) (noE) (someE (Mp.ret (.int 1))))) (consL (tupM (consL (shr (Mp.bin (binF .Mult) (vixM 9 (Mp.ret (.int 0))) (Mp.ret (.int 2)))) (consL (shr (Mp.bin (binF .Mult) (vixM 9 (Mp.ret (.int 1))) (Mp.ret (.int 2)))) (nilL)))) (consL (tupM (consL (vixM 9 (Mp.ret (.int 0))) (consL (shr (Mp.bin (binF .Sub) (Mp.ret (.int 0)) (vixM 9 (Mp.ret (.int 1))))) (nilL)))) (consL (tupM (consL (getV 5) (consL (Mp.ret (.int 1)) (nilL)))) (consL (tupM (consL (Mp.ret (.int 1)) (consL (getV 5) (nilL)))) (consL (getV 5) (consL (tupM (consL (Mp.ret (.bl true)) (consL (Mp.ret (.int 1)) (nilL)))) (consL (tupM (consL (Mp.ret (.int 0)) (consL (Mp.ret (.int 2)) (nilL)))) (nilL)))))))))))))) (E ns s a2 a3 a4 (some (.sh d)) a6 a7 a8 (some (.sh (fr p q))) a10 a11 a12) = (.ok .nx, E ns s a2 a3 a4 (some (.sh d)) (some (.lst ((near p q d).map .sh))) a7 a8 (some (.sh (fr p q))) a10 a11 a12) := by
  have m1 : ∀ x : Int, mulOk x 2 = true := fun x => by unfold mulOk; simp
  have hl : listF [fr p q] = some (.lst [.sh (.int p), .sh (.int q)]) := rfl
  have ha : binF .Add (fr p q) (.tup [.int 1]) = some (.sh (.tup [.int p, .int q, .int 1])) := by simp [binF, addF, lim]
  have hs : sliceF (fr p q) none (some 1) = some (.sh (.tup [.int p])) := rfl
  simp [v_bnd, v_ret, v_lift, v_bad, v_shr, v_own, v_getV, v_bin, v_cmpM, v_ofB, v_tru, v_notM, v_andM, v_orM, v_andV, v_orV, v_iteM, v_nilL, v_consL, v_tupM, v_lstM, v_callM, v_negM, v_ixM, v_lookV, v_vixM, v_vvxM, v_scal1, v_noE, v_someE, v_sliceM, v_revM, v_isiM, v_skipM, v_seqM, v_retM, v_dropM, v_ifM, v_putV, v_setM, v_puts0, v_puts1, v_parM, v_bindN, v_bindT, v_asgM, v_forM, v_valM, v_rng1M, v_rng2M, v_zipM, v_setKM, v_mutN, v_mutK, v_dispM, v_nilA, v_oA, v_bA, cmp_ne, cmp_eq, cmp_lt, cmp_gt, cmp_le, cmp_ge, bin_add, bin_sub, bin_mul, bin_mod, bin_div, O.share, truF, List.getElem?_cons_zero, List.getElem?_cons_succ, lim, m1, hl, ha, hs, at0, at1, O.shares, near]
theorem near_agree (hF : 18001 ≤ FU) {p q : Int} (np : Num p) (nq : Num q) {d : D} (hd : d ∈ odds) : ∀ x ∈ near p q d ++ tail p q, Agree FU x := by
  have hp := odd_plain hd
  have ho := odd_small hd
  have one : Small 1 := small_le (n := 1) (by decide) (by decide +kernel)
  have pr : ∀ a b : Int, Small b → Agree FU (fr a b) := fun a b hb => agree_pair hF _ _ rfl rfl fun x y _ h => by
    simp only [D.int.injEq] at h
    subst h
    exact hb
  have sq : Small q := num_small nq
  have c1 : Agree FU (fr p q) := pr _ _ sq
  have c2 : Agree FU (.lst [.int p, .int q]) := agree_other _ rfl rfl
  have c3 : Agree FU (.tup [.int p, .int q, .int 1]) := agree_len _ (by simp)
  have c4 : Agree FU (.tup [.int p]) := agree_len _ (by simp)
  have c5 : Agree FU (fr (p * 2) (q * 2)) := pr _ _ (num_mul nq (by show _ ≤ _; decide))
  have c6 : Agree FU (fr p (0 - q)) := pr _ _ (by
    have : (0 - q).natAbs = q.natAbs := by omega
    unfold Small
    rw [this]
    exact sq)
  have c7 : Agree FU (.tup [d, .int 1]) := agree_pair hF _ _ hp rfl fun x y _ h => by
    simp only [D.int.injEq] at h
    subst h
    exact one
  have c8 : Agree FU (.tup [.int 1, d]) := agree_pair hF _ _ rfl hp fun x y _ h => ho y h
  have c9 : Agree FU d := odd_agree hF hd
  have c10 : Agree FU (.tup [.bl true, .int 1]) := agree_pair hF _ _ rfl rfl fun x y h _ => by simp at h
  have c11 : Agree FU (fr 0 2) := pr _ _ (small_le (n := 2) (by decide) (by decide +kernel))
  have d1 : Agree FU (fr 0 1) := pr _ _ one
  have d2 : Agree FU (fr 1 0) := pr _ _ (small_le (n := 0) (by decide) (by decide +kernel))
  have d3 : Agree FU (fr 0 0) := pr _ _ (small_le (n := 0) (by decide) (by decide +kernel))
  have d4 : Agree FU (.tup [.int 1, .bl true]) := agree_pair hF _ _ rfl rfl fun x y _ h => by simp at h
  have d5 : Agree FU (.tup [fr p q, .int 1]) := agree_pair hF _ _ rfl rfl fun x y h _ => by simp at h
  have d6 : Agree FU .non := agree_other _ rfl rfl
  have d7 : Agree FU (.tup [.str s7, .int 1]) := agree_pair hF _ _ rfl rfl fun x y h _ => by simp at h
  have d8 : Agree FU (fr (-3) 2) := pr _ _ (small_le (n := 2) (by decide) (by decide +kernel))
  have d9 : Agree FU (fr 1000000000000000000000000000000 1000000000000000000000000000000) := pr _ _ (small_le (n := 1000000000000000000000000000000) (by decide) (by decide +kernel))
  intro x hx
  simp only [near, tail, List.cons_append, List.nil_append, List.mem_cons, List.not_mem_nil, or_false] at hx
  rcases hx with h | h | h | h | h | h | h | h | h | h | h | h | h | h | h | h | h | h | h | h <;> subst h <;> assumption
theorem rep_bl (x : Bool) : reprF [.bl x] = some (.sh (.str (shown (.bl x)))) ∧ cmpF .NotEq (.str (shown (.bl x))) (.str (shown (.bl x))) = some false := by
  constructor
  · have h : (shwD (.bl x) 64 && decide ((shown (.bl x)).length ≤ lim)) = true := by
      cases x <;> decide +kernel
    simp only [reprF]
    rw [if_pos h]
  · cases x <;> decide +kernel
theorem t12_turn (s : Src) (x : D) (h : Agree FU x) : seqM (bindT (.nm 7) x) (ifM (cmpM (cmpF .NotEq) (shr (callM reprF (consL (shr (callF N_5.length (b_5 FU) (oA (own (getV 7)) (nilA)))) nilL))) (shr (callM reprF (consL (shr (callF N_13.length (b_13 FU) (oA (own (getV 7)) (nilA)))) nilL)))) (retM (own (Mp.ret (.bl false)))) (skipM)) (E ns s a2 a3 a4 a5 a6 a7 a8 a9 a10 a11 a12) = (.ok .nx, E ns s a2 a3 a4 a5 a6 (some (.sh x)) a8 a9 a10 a11 a12) := by
  obtain ⟨b, e1, e2, h1, h2⟩ := h
  obtain ⟨r1, r2⟩ := rep_bl b
  simp [v_bnd, v_ret, v_lift, v_bad, v_shr, v_own, v_getV, v_bin, v_cmpM, v_ofB, v_tru, v_notM, v_andM, v_orM, v_andV, v_orV, v_iteM, v_nilL, v_consL, v_tupM, v_lstM, v_callM, v_negM, v_ixM, v_lookV, v_vixM, v_vvxM, v_scal1, v_noE, v_someE, v_sliceM, v_revM, v_isiM, v_skipM, v_seqM, v_retM, v_dropM, v_ifM, v_putV, v_setM, v_puts0, v_puts1, v_parM, v_bindN, v_bindT, v_asgM, v_forM, v_valM, v_rng1M, v_rng2M, v_zipM, v_setKM, v_mutN, v_mutK, v_dispM, v_nilA, v_oA, v_bA, cmp_ne, cmp_eq, cmp_lt, cmp_gt, cmp_le, cmp_ge, bin_add, bin_sub, bin_mul, bin_mod, bin_div, O.share, truF, List.getElem?_cons_zero, List.getElem?_cons_succ, v_callF, takeA, backA, startE, h1, h2, r1, r2]
theorem t12_loop (s : Src) : ∀ (xs : List D) (a7 : Option O), (∀ x ∈ xs, Agree FU x) → ∃ b7, loopM (.nm 7) (ifM (cmpM (cmpF .NotEq) (shr (callM reprF (consL (shr (callF N_5.length (b_5 FU) (oA (own (getV 7)) (nilA)))) nilL))) (shr (callM reprF (consL (shr (callF N_13.length (b_13 FU) (oA (own (getV 7)) (nilA)))) nilL)))) (retM (own (Mp.ret (.bl false)))) (skipM)) xs (E ns s a2 a3 a4 a5 a6 a7 a8 a9 a10 a11 a12) = (.ok .nx, E ns s a2 a3 a4 a5 a6 b7 a8 a9 a10 a11 a12)
  | [], a7, _ => ⟨a7, rfl⟩
  | x :: xs, a7, h => by
    obtain ⟨b7, h2⟩ := t12_loop s xs (some (.sh x)) fun y hy => h y (List.mem_cons_of_mem _ hy)
    exact ⟨b7, by rw [v_loop1, t12_turn s x (h x List.mem_cons_self)]; exact h2⟩
theorem t12 (hF : 18001 ≤ FU) (s : Src) (p q : Int) (np : Num p) (nq : Num q) (d : D) (hd : d ∈ odds) : ∃ b6 b7, (forM (.nm 7) (valM (shr (Mp.bin (binF .Add) (getV 6) (shr (lstM (consL (tupM (consL (Mp.ret (.int 0)) (consL (Mp.ret (.int 1)) (nilL)))) (consL (tupM (consL (Mp.ret (.int 1)) (consL (Mp.ret (.int 0)) (nilL)))) (consL (tupM (consL (Mp.ret (.int 0)) (consL (Mp.ret (.int 0)) (nilL)))) (consL (tupM (consL (Mp.ret (.int 1)) (consL (Mp.ret (.bl true)) (nilL)))) (consL (tupM (consL (getV 9) (consL (Mp.ret (.int 1)) (nilL)))) (consL (Mp.ret .non) (consL (tupM (consL (Mp.ret (.str s7)) (consL (Mp.ret (.int 1)) (nilL)))) (consL (tupM (consL (negM (Mp.ret (.int 3))) (consL (Mp.ret (.int 2)) (nilL)))) (consL (tupM (consL (shr (Mp.bin (binF .Pow) (Mp.ret (.int 10)) (Mp.ret (.int 30)))) (consL (shr (Mp.bin (binF .Pow) (Mp.ret (.int 10)) (Mp.ret (.int 30)))) (nilL)))) (nilL))))))))))))))) (ifM (cmpM (cmpF .NotEq) (shr (callM reprF (consL (shr (callF N_5.length (b_5 FU) (oA (own (getV 7)) (nilA)))) nilL))) (shr (callM reprF (consL (shr (callF N_13.length (b_13 FU) (oA (own (getV 7)) (nilA)))) nilL)))) (retM (own (Mp.ret (.bl false)))) (skipM))) (E ns s a2 a3 a4 (some (.sh d)) (some (.lst ((near p q d).map .sh))) a7 a8 (some (.sh (fr p q))) a10 a11 a12) = (.ok .nx, E ns s a2 a3 a4 (some (.sh d)) b6 b7 a8 (some (.sh (fr p q))) a10 a11 a12) := by
  obtain ⟨b7, h⟩ := t12_loop (FU := FU) (ns := ns) (a2 := a2) (a3 := a3) (a4 := a4) (a5 := some (.sh d)) (a6 := some (.sh (.lst (near p q d)))) (a8 := a8) (a9 := some (.sh (fr p q))) (a10 := a10) (a11 := a11) (a12 := a12) s (near p q d ++ tail p q) a7 (near_agree hF np nq hd)
  refine ⟨some (.sh (.lst (near p q d))), b7, ?_⟩
  have ha : binF .Add (.lst (near p q d)) (.lst (tail p q)) = some (.lst ((near p q d ++ tail p q).map .sh)) := rfl
  have hn : O.share (.lst ((near p q d).map .sh)) = .lst (near p q d) := by simp only [O.share, O.shares_sh]
  have hv : (valM (shr (Mp.bin (binF .Add) (getV 6) (shr (lstM (consL (tupM (consL (Mp.ret (.int 0)) (consL (Mp.ret (.int 1)) (nilL)))) (consL (tupM (consL (Mp.ret (.int 1)) (consL (Mp.ret (.int 0)) (nilL)))) (consL (tupM (consL (Mp.ret (.int 0)) (consL (Mp.ret (.int 0)) (nilL)))) (consL (tupM (consL (Mp.ret (.int 1)) (consL (Mp.ret (.bl true)) (nilL)))) (consL (tupM (consL (getV 9) (consL (Mp.ret (.int 1)) (nilL)))) (consL (Mp.ret .non) (consL (tupM (consL (Mp.ret (.str s7)) (consL (Mp.ret (.int 1)) (nilL)))) (consL (tupM (consL (negM (Mp.ret (.int 3))) (consL (Mp.ret (.int 2)) (nilL)))) (consL (tupM (consL (shr (Mp.bin (binF .Pow) (Mp.ret (.int 10)) (Mp.ret (.int 30)))) (consL (shr (Mp.bin (binF .Pow) (Mp.ret (.int 10)) (Mp.ret (.int 30)))) (nilL)))) (nilL))))))))))))))) (E ns s a2 a3 a4 (some (.sh d)) (some (.lst ((near p q d).map .sh))) a7 a8 (some (.sh (fr p q))) a10 a11 a12) = (.ok (near p q d ++ tail p q), E ns s a2 a3 a4 (some (.sh d)) (some (.sh (.lst (near p q d)))) a7 a8 (some (.sh (fr p q))) a10 a11 a12) := by
    generalize near p q d = R at *
    have hi : O.shares ((R ++ tail p q).map .sh) = R ++ tail p q := O.shares_sh _
    have hr : O.shares (R.map .sh) = R := O.shares_sh _
    simp [tail] at ha hi
    simp [v_bnd, v_ret, v_lift, v_bad, v_shr, v_own, v_getV, v_bin, v_cmpM, v_ofB, v_tru, v_notM, v_andM, v_orM, v_andV, v_orV, v_iteM, v_nilL, v_consL, v_tupM, v_lstM, v_callM, v_negM, v_ixM, v_lookV, v_vixM, v_vvxM, v_scal1, v_noE, v_someE, v_sliceM, v_revM, v_isiM, v_skipM, v_seqM, v_retM, v_dropM, v_ifM, v_putV, v_setM, v_puts0, v_puts1, v_parM, v_bindN, v_bindT, v_asgM, v_forM, v_valM, v_rng1M, v_rng2M, v_zipM, v_setKM, v_mutN, v_mutK, v_dispM, v_nilA, v_oA, v_bA, cmp_ne, cmp_eq, cmp_lt, cmp_gt, cmp_le, cmp_ge, bin_add, bin_sub, bin_mul, bin_mod, bin_div, O.share, truF, List.getElem?_cons_zero, List.getElem?_cons_succ, lim, O.shares, p30, ha, hr, hi, itemsD, tail]
  rw [v_forM, v_bnd, hv]
  exact h
end La
end
section
namespace La
open Mp
variable {FU : Nat} {ns : List Int} {a2 a3 a4 a5 a6 a7 a8 a9 a10 a11 a12 : Option O}
theorem call2 {n : Nat} {B : M Fl} {m1 m2 : M O} {env e1 e2 e3 : Env} {x y o : O} (h1 : m1 env = (.ok x, e1)) (h2 : m2 e1 = (.ok y, e2)) (hB : B (startE n [x, y]) = (.ok (.rt o), e3)) : callF n B (oA m1 (oA m2 nilA)) env = (.ok o, e2) := by
  rw [v_callF]
  simp only [v_oA, v_bnd, h1, h2, v_nilA, v_ret, takeA, Option.map_some, hB, backA]
theorem cmp2 {f : D → D → Option Bool} {m1 m2 : M O} {env e1 e2 : Env} {x y : O} {b : Bool} (h1 : m1 env = (.ok x, e1)) (h2 : m2 e1 = (.ok y, e2)) (hf : f x.share y.share = some b) : cmpM f (shr m1) (shr m2) env = (.ok b, e2) := by
  simp only [v_cmpM, v_bnd, v_shr, h1, v_ret, h2, v_lift, hf]
theorem or2 {m k : M Bool} {env e1 e2 : Env} {b : Bool} (h1 : m env = (.ok false, e1)) (h2 : k e1 = (.ok b, e2)) : Mp.orM m k env = (.ok b, e2) := by
  simp only [v_orM, v_bnd, h1, Bool.false_eq_true, if_false, h2]
theorem if_no {t : M Bool} {a : M Fl} {env e1 : Env} (h : t env = (.ok false, e1)) : ifM t a skipM env = (.ok .nx, e1) := by
  simp only [v_ifM, v_bnd, h, Bool.false_eq_true, if_false, v_skipM]
theorem u1 (s : Src) (R G : List D) (o : O) (e1 : Env) (h1 : b_6 FU (startE 5 [.sh (.tup R), .sh (.lst G)]) = (.ok (.rt o), e1)) :
    (callF N_6.length (b_6 FU) (oA (own (getV 11)) (oA (own (getV 12)) (nilA)))) (E ns s a2 a3 a4 a5 a6 a7 a8 a9 a10 (some (.sh (.tup R))) (some (.lst (G.map .sh)))) = (.ok o, E ns s a2 a3 a4 a5 a6 a7 a8 a9 a10 (some (.sh (.tup R))) (some (.sh (.lst G)))) := by
  have hsh : O.shares (G.map .sh) = G := O.shares_sh _
  refine call2 (x := .sh (.tup R)) (y := .sh (.lst G)) rfl ?_ h1
  rw [v_own, v_bnd, v_getV]
  simp only [List.getElem?_cons_succ, List.getElem?_cons_zero, O.share, hsh, v_ret]
  rfl
theorem u2 (s : Src) (R G : List D) (o : O) (e1 : Env) (h1 : b_11 FU (startE 5 [.sh (.tup R), .sh (.lst G)]) = (.ok (.rt o), e1)) :
    (callF N_11.length (b_11 FU) (oA (own (getV 11)) (oA (own (getV 12)) (nilA)))) (E ns s a2 a3 a4 a5 a6 a7 a8 a9 a10 (some (.sh (.tup R))) (some (.sh (.lst G)))) = (.ok o, E ns s a2 a3 a4 a5 a6 a7 a8 a9 a10 (some (.sh (.tup R))) (some (.sh (.lst G)))) :=
  call2 (x := .sh (.tup R)) (y := .sh (.lst G)) rfl rfl h1
theorem u3 (s : Src) (R G : List D) (o : O) (e1 : Env) (h1 : b_6 FU (startE 5 [.sh (.lst R), .sh (.tup G)]) = (.ok (.rt o), e1)) :
    (callF N_6.length (b_6 FU) (oA (own (shr (callM listF (consL (getV 11) nilL)))) (oA (own (shr (callM tupleF (consL (getV 12) nilL)))) (nilA)))) (E ns s a2 a3 a4 a5 a6 a7 a8 a9 a10 (some (.sh (.tup R))) (some (.sh (.lst G)))) = (.ok o, E ns s a2 a3 a4 a5 a6 a7 a8 a9 a10 (some (.sh (.tup R))) (some (.sh (.lst G)))) := by
  have hsr : O.shares (R.map .sh) = R := O.shares_sh _
  refine call2 (x := .sh (.lst R)) (y := .sh (.tup G)) (e1 := E ns s a2 a3 a4 a5 a6 a7 a8 a9 a10 (some (.sh (.tup R))) (some (.sh (.lst G)))) ?_ rfl h1
  show (Out.ok (O.sh (O.share (.lst (R.map .sh)))), _) = _
  simp only [O.share, hsr]
theorem ne_same (x y : Int) : cmpF .NotEq (fr x y) (fr x y) = some false := by
  have := ne_fr (a := x) (b := y) (c := x) (d := y)
  simpa using this
theorem t9 (hF : 18001 ≤ FU) (s : Src) (l : List (Int × (Int × Int))) (ok : ∀ z ∈ l, Okf z) (hl : l.length ≤ 6) : (ifM (orM (cmpM (cmpF .NotEq) (shr (callF N_6.length (b_6 FU) (oA (own (getV 11)) (oA (own (getV 12)) (nilA))))) (shr (callF N_11.length (b_11 FU) (oA (own (getV 11)) (oA (own (getV 12)) (nilA)))))) (cmpM (cmpF .NotEq) (shr (callF N_6.length (b_6 FU) (oA (own (shr (callM listF (consL (getV 11) nilL)))) (oA (own (shr (callM tupleF (consL (getV 12) nilL)))) (nilA))))) (shr (callF N_11.length (b_11 FU) (oA (own (getV 11)) (oA (own (getV 12)) (nilA))))))) (retM (own (Mp.ret (.bl false)))) (skipM)) (E ns s a2 a3 a4 a5 a6 a7 a8 a9 a10 (some (.sh (.tup (rowD l)))) (some (.lst ((frD l).map .sh)))) = (.ok .nx, E ns s a2 a3 a4 a5 a6 a7 a8 a9 a10 (some (.sh (.tup (rowD l)))) (some (.sh (.lst (frD l))))) := by
  obtain ⟨e1, h1⟩ := b6_ok hF l (by omega) ok (.tup (rowD l)) (.lst (frD l)) rfl rfl
  obtain ⟨e2, h2⟩ := b11_ok hF l (by omega) ok (.tup (rowD l)) (.lst (frD l)) rfl rfl
  obtain ⟨e3, h3⟩ := b6_ok hF l (by omega) ok (.lst (rowD l)) (.tup (frD l)) rfl rfl
  have k1 := u1 (ns := ns) (a2 := a2) (a3 := a3) (a4 := a4) (a5 := a5) (a6 := a6) (a7 := a7) (a8 := a8) (a9 := a9) (a10 := a10) s _ _ _ e1 h1
  have k2 := u2 (ns := ns) (a2 := a2) (a3 := a3) (a4 := a4) (a5 := a5) (a6 := a6) (a7 := a7) (a8 := a8) (a9 := a9) (a10 := a10) s _ _ _ e2 h2
  have k3 := u3 (ns := ns) (a2 := a2) (a3 := a3) (a4 := a4) (a5 := a5) (a6 := a6) (a7 := a7) (a8 := a8) (a9 := a9) (a10 := a10) s _ _ _ e3 h3
  exact if_no (or2 (cmp2 k1 k2 (ne_same _ _)) (cmp2 k3 k2 (ne_same _ _)))
end La
end
section
namespace La
open Mp
theorem seq_go {m k : M Fl} {env e1 : Env} {r : Out Fl × Env} (h1 : m env = (.ok .nx, e1)) (h2 : k e1 = r) : seqM m k env = r := by
  rw [v_seqM, h1]
  exact h2
abbrev lapB (FU : Nat) : M Fl := (seqM (parM [8, 3] (consL (callF N_14.length (b_14 FU) (bA 1 (nilA))) (consL (callF N_14.length (b_14 FU) (bA 1 (nilA))) (nilL)))) (seqM (setM 3 (iteM (cmpM (cmpF .NotEq) (getV 3) (Mp.ret (.int 0))) (own (getV 3)) (own (negM (Mp.ret (.int 6)))))) (seqM (ifM (orM (cmpM (cmpF .NotEq) (shr (callF N_2.length (b_2 FU) (oA (own (getV 8)) (oA (own (getV 3)) (nilA))))) (shr (callF N_9.length (b_9 FU) (oA (own (getV 8)) (oA (own (getV 3)) (nilA)))))) (orM (notM (tru (shr (callF N_5.length (b_5 FU) (oA (own (shr (callF N_2.length (b_2 FU) (oA (own (getV 8)) (oA (own (getV 3)) (nilA)))))) (nilA)))))) (cmpM (cmpF .NotEq) (shr (callF N_2.length (b_2 FU) (oA (own (getV 3)) (oA (own (getV 3)) (nilA))))) (tupM (consL (Mp.ret (.int 1)) (consL (Mp.ret (.int 1)) (nilL))))))) (retM (own (Mp.ret (.bl false)))) (skipM)) (seqM (parM [9, 10] (consL (callF N_15.length (b_15 FU) (bA 1 (nilA))) (consL (callF N_15.length (b_15 FU) (bA 1 (nilA))) (nilL)))) (seqM (ifM (cmpM (cmpF .NotEq) (shr (callF N_3.length (b_3 FU) (oA (own (getV 9)) (oA (own (getV 10)) (nilA))))) (shr (callF N_9.length (b_9 FU) (oA (own (shr (Mp.bin (binF .Add) (shr (Mp.bin (binF .Mult) (vixM 9 (Mp.ret (.int 0))) (vixM 10 (Mp.ret (.int 1))))) (shr (Mp.bin (binF .Mult) (vixM 10 (Mp.ret (.int 0))) (vixM 9 (Mp.ret (.int 1)))))))) (oA (own (shr (Mp.bin (binF .Mult) (vixM 9 (Mp.ret (.int 1))) (vixM 10 (Mp.ret (.int 1)))))) (nilA)))))) (retM (own (Mp.ret (.bl false)))) (skipM)) (seqM (ifM (cmpM (cmpF .NotEq) (shr (callF N_4.length (b_4 FU) (oA (own (getV 9)) (oA (own (getV 10)) (nilA))))) (shr (callF N_9.length (b_9 FU) (oA (own (shr (Mp.bin (binF .Mult) (vixM 9 (Mp.ret (.int 0))) (vixM 10 (Mp.ret (.int 0)))))) (oA (own (shr (Mp.bin (binF .Mult) (vixM 9 (Mp.ret (.int 1))) (vixM 10 (Mp.ret (.int 1)))))) (nilA)))))) (retM (own (Mp.ret (.bl false)))) (skipM)) (seqM (setM 4 (callF N_7.length (b_7 FU) (bA 1 (oA (own (Mp.ret (.int 6))) (nilA))))) (seqM (parM [11, 12] (consL (callM tupleF (consL (shr (lcM ([("_law_k", 13)].map (fun p => p.2)) (.nm 13) (Mp.ret true) (callF N_14.length (b_14 FU) (bA 1 (nilA))) (rng1M (consL (getV 4) (nilL))))) nilL)) (consL (lcM ([("_law_k", 13)].map (fun p => p.2)) (.nm 13) (Mp.ret true) (callF N_15.length (b_15 FU) (bA 1 (nilA))) (rng1M (consL (getV 4) (nilL)))) (nilL)))) (seqM (ifM (orM (cmpM (cmpF .NotEq) (shr (callF N_6.length (b_6 FU) (oA (own (getV 11)) (oA (own (getV 12)) (nilA))))) (shr (callF N_11.length (b_11 FU) (oA (own (getV 11)) (oA (own (getV 12)) (nilA)))))) (cmpM (cmpF .NotEq) (shr (callF N_6.length (b_6 FU) (oA (own (shr (callM listF (consL (getV 11) nilL)))) (oA (own (shr (callM tupleF (consL (getV 12) nilL)))) (nilA))))) (shr (callF N_11.length (b_11 FU) (oA (own (getV 11)) (oA (own (getV 12)) (nilA))))))) (retM (own (Mp.ret (.bl false)))) (skipM)) (seqM (setM 5 (callF N_12.length (b_12 FU) (bA 1 (nilA)))) (seqM (setM 6 (lstM (consL (getV 9) (consL (shr (callM listF (consL (getV 9) nilL))) (consL (shr (Mp.bin (binF .Add) (getV 9) (tupM (consL (Mp.ret (.int 1)) (nilL))))) (consL (shr (sliceM (getV 9) (noE) (someE (Mp.ret (.int 1))))) (consL (tupM (consL (shr (Mp.bin (binF .Mult) (vixM 9 (Mp.ret (.int 0))) (Mp.ret (.int 2)))) (consL (shr (Mp.bin (binF .Mult) (vixM 9 (Mp.ret (.int 1))) (Mp.ret (.int 2)))) (nilL)))) (consL (tupM (consL (vixM 9 (Mp.ret (.int 0))) (consL (shr (Mp.bin (binF .Sub) (Mp.ret (.int 0)) (vixM 9 (Mp.ret (.int 1))))) (nilL)))) (consL (tupM (consL (getV 5) (consL (Mp.ret (.int 1)) (nilL)))) (consL (tupM (consL (Mp.ret (.int 1)) (consL (getV 5) (nilL)))) (consL (getV 5) (consL (tupM (consL (Mp.ret (.bl true)) (consL (Mp.ret (.int 1)) (nilL)))) (consL (tupM (consL (Mp.ret (.int 0)) (consL (Mp.ret (.int 2)) (nilL)))) (nilL)))))))))))))) (forM (.nm 7) (valM (shr (Mp.bin (binF .Add) (getV 6) (shr (lstM (consL (tupM (consL (Mp.ret (.int 0)) (consL (Mp.ret (.int 1)) (nilL)))) (consL (tupM (consL (Mp.ret (.int 1)) (consL (Mp.ret (.int 0)) (nilL)))) (consL (tupM (consL (Mp.ret (.int 0)) (consL (Mp.ret (.int 0)) (nilL)))) (consL (tupM (consL (Mp.ret (.int 1)) (consL (Mp.ret (.bl true)) (nilL)))) (consL (tupM (consL (getV 9) (consL (Mp.ret (.int 1)) (nilL)))) (consL (Mp.ret .non) (consL (tupM (consL (Mp.ret (.str s7)) (consL (Mp.ret (.int 1)) (nilL)))) (consL (tupM (consL (negM (Mp.ret (.int 3))) (consL (Mp.ret (.int 2)) (nilL)))) (consL (tupM (consL (shr (Mp.bin (binF .Pow) (Mp.ret (.int 10)) (Mp.ret (.int 30)))) (consL (shr (Mp.bin (binF .Pow) (Mp.ret (.int 10)) (Mp.ret (.int 30)))) (nilL)))) (nilL))))))))))))))) (ifM (cmpM (cmpF .NotEq) (shr (callM reprF (consL (shr (callF N_5.length (b_5 FU) (oA (own (getV 7)) (nilA)))) nilL))) (shr (callM reprF (consL (shr (callF N_13.length (b_13 FU) (oA (own (getV 7)) (nilA)))) nilL)))) (retM (own (Mp.ret (.bl false)))) (skipM))))))))))))))
def At (ns : List Int) (e : Env) : Prop := ∃ (s : Src) (a2 a3 a4 a5 a6 a7 a8 a9 a10 a11 a12 : Option O), s.cells.length ≤ 63 ∧ e = E ns s a2 a3 a4 a5 a6 a7 a8 a9 a10 a11 a12
theorem lap_ok {FU : Nat} {ns : List Int} (hF : 18001 ≤ FU) (e : Env) (h : At ns e) : ∃ e', lapB FU e = (.ok .nx, e') ∧ At ns e' := by
  obtain ⟨s, a2, a3, a4, a5, a6, a7, a8, a9, a10, a11, a12, hs, rfl⟩ := h
  obtain ⟨x, y, s1', nx, ny, c1, h1⟩ := t1 (FU := FU) (ns := ns) (a2 := a2) (a3 := a3) (a4 := a4) (a5 := a5) (a6 := a6) (a7 := a7) (a8 := a8) (a9 := a9) (a10 := a10) (a11 := a11) (a12 := a12) hF s hs
  obtain ⟨z, z0, nz, h2⟩ := t2 (ns := ns) (a2 := a2) (a4 := a4) (a5 := a5) (a6 := a6) (a7 := a7) (a8 := some (.sh (.int x))) (a9 := a9) (a10 := a10) (a11 := a11) (a12 := a12) s1' y ny
  have h3 := t3 (ns := ns) (a2 := a2) (a4 := a4) (a5 := a5) (a6 := a6) (a7 := a7) (a9 := a9) (a10 := a10) (a11 := a11) (a12 := a12) hF s1' x z z0 nz
  obtain ⟨p, q, u, v, s4', np, nq, q0, nu, nv, v0, c4, h4⟩ := t4 (FU := FU) (ns := ns) (a2 := a2) (a3 := some (.sh (.int z))) (a4 := a4) (a5 := a5) (a6 := a6) (a7 := a7) (a8 := some (.sh (.int x))) (a9 := a9) (a10 := a10) (a11 := a11) (a12 := a12) hF s1' c1
  have h5 := t5 (ns := ns) (a2 := a2) (a3 := some (.sh (.int z))) (a4 := a4) (a5 := a5) (a6 := a6) (a7 := a7) (a8 := some (.sh (.int x))) (a11 := a11) (a12 := a12) hF s4' p q u v np nq q0 nu nv v0
  have h6 := t6 (ns := ns) (a2 := a2) (a3 := some (.sh (.int z))) (a4 := a4) (a5 := a5) (a6 := a6) (a7 := a7) (a8 := some (.sh (.int x))) (a11 := a11) (a12 := a12) hF s4' p q u v np nq q0 nu nv v0
  obtain ⟨r, s7', r0, r1, c7, h7⟩ := t7 (FU := FU) (ns := ns) (a2 := a2) (a3 := some (.sh (.int z))) (a4 := a4) (a5 := a5) (a6 := a6) (a7 := a7) (a8 := some (.sh (.int x))) (a9 := some (.sh (fr p q))) (a10 := some (.sh (fr u v))) (a11 := a11) (a12 := a12) hF s4' c4
  obtain ⟨l, s8', okl, ll, c8, h8⟩ := t8 (FU := FU) (ns := ns) (a2 := a2) (a3 := some (.sh (.int z))) (a5 := a5) (a6 := a6) (a7 := a7) (a8 := some (.sh (.int x))) (a9 := some (.sh (fr p q))) (a10 := some (.sh (fr u v))) (a11 := a11) (a12 := a12) hF s7' c7 r r0 r1
  have h9 := t9 (FU := FU) (ns := ns) (a2 := a2) (a3 := some (.sh (.int z))) (a4 := some (.sh (.int r))) (a5 := a5) (a6 := a6) (a7 := a7) (a8 := some (.sh (.int x))) (a9 := some (.sh (fr p q))) (a10 := some (.sh (fr u v))) hF s8' l okl ll
  obtain ⟨d, s10, hd, c10, h10⟩ := t10 (FU := FU) (ns := ns) (a2 := a2) (a3 := some (.sh (.int z))) (a4 := some (.sh (.int r))) (a5 := a5) (a6 := a6) (a7 := a7) (a8 := some (.sh (.int x))) (a9 := some (.sh (fr p q))) (a10 := some (.sh (fr u v))) (a11 := some (.sh (.tup (rowD l)))) (a12 := some (.sh (.lst (frD l)))) hF s8' c8
  have h11 := t11 (ns := ns) (a2 := a2) (a3 := some (.sh (.int z))) (a4 := some (.sh (.int r))) (a6 := a6) (a7 := a7) (a8 := some (.sh (.int x))) (a10 := some (.sh (fr u v))) (a11 := some (.sh (.tup (rowD l)))) (a12 := some (.sh (.lst (frD l)))) s10 p q d
  obtain ⟨b6, b7, h12⟩ := t12 (FU := FU) (ns := ns) (a2 := a2) (a3 := some (.sh (.int z))) (a4 := some (.sh (.int r))) (a7 := a7) (a8 := some (.sh (.int x))) (a10 := some (.sh (fr u v))) (a11 := some (.sh (.tup (rowD l)))) (a12 := some (.sh (.lst (frD l)))) hF s10 p q np nq d hd
  refine ⟨_, seq_go h1 (seq_go h2 (seq_go h3 (seq_go h4 (seq_go h5 (seq_go h6 (seq_go h7 (seq_go h8 (seq_go h9 (seq_go h10 (seq_go h11 h12)))))))))), ?_⟩
  exact ⟨s10, _, _, _, _, _, _, _, _, _, _, _, c10, rfl⟩
theorem laps {FU : Nat} {ns : List Int} (hF : 18001 ≤ FU) : ∀ (ds : List D) (e : Env), At ns e → ∃ e', loopM (.nm 2) (lapB FU) ds e = (.ok .nx, e') ∧ At ns e'
  | [], e, h => ⟨e, rfl, h⟩
  | d :: ds, e, h => by
    obtain ⟨s, a2, a3, a4, a5, a6, a7, a8, a9, a10, a11, a12, hs, rfl⟩ := h
    have hb : bindT (.nm 2) d (E ns s a2 a3 a4 a5 a6 a7 a8 a9 a10 a11 a12) = (.ok .nx, E ns s (some (.sh d)) a3 a4 a5 a6 a7 a8 a9 a10 a11 a12) := rfl
    obtain ⟨e1, h1, p1⟩ := lap_ok hF (E ns s (some (.sh d)) a3 a4 a5 a6 a7 a8 a9 a10 a11 a12) ⟨s, _, _, _, _, _, _, _, _, _, _, _, hs, rfl⟩
    obtain ⟨e2, h2, p2⟩ := laps hF ds e1 p1
    exact ⟨e2, by rw [v_loop1, seq_go hb h1]; exact h2, p2⟩
theorem consS {m : M O} {ms : M (List D)} {env e1 e2 : Env} {o : O} {xs : List D} (h : m env = (.ok o, e1)) (h2 : ms e1 = (.ok xs, e2)) : consL (shr m) ms env = (.ok (o.share :: xs), e2) := by
  simp only [v_consL, v_bnd, v_shr, h, v_ret, h2]
theorem lst_ok {ms : M (List D)} {env e1 : Env} {ds : List D} (h : ms env = (.ok ds, e1)) (hl : ds.length ≤ lim) : lstM ms env = (.ok (.lst (ds.map .sh)), e1) := by
  simp only [v_lstM, v_bnd, h, hl, if_true, v_ret]
theorem ret_cmp {f : D → D → Option Bool} {m1 m2 : M O} {env e1 e2 : Env} {x y : O} {b : Bool} (h1 : m1 env = (.ok x, e1)) (h2 : m2 e1 = (.ok y, e2)) (hf : f x.share y.share = some b) : retM (own (ofB (cmpM f (shr m1) (shr m2)))) env = (.ok (.rt (.sh (.bl b))), e2) := by
  have h := cmp2 h1 h2 hf
  simp only [v_retM, v_bnd, v_own, v_ofB, h, v_ret]
theorem last_ok {FU : Nat} (hF : 18001 ≤ FU) (env : Env) : (retM (own (ofB (cmpM (cmpF .Eq) (shr (lstM (consL (shr (callF N_2.length (b_2 FU) (oA (own (Mp.ret (.int 6))) (oA (own (negM (Mp.ret (.int 4)))) (nilA))))) (consL (shr (callF N_2.length (b_2 FU) (oA (own (Mp.ret (.int 0))) (oA (own (negM (Mp.ret (.int 5)))) (nilA))))) (consL (shr (callF N_3.length (b_3 FU) (oA (own (tupM (consL (Mp.ret (.int 1)) (consL (Mp.ret (.int 2)) (nilL))))) (oA (own (tupM (consL (negM (Mp.ret (.int 1))) (consL (Mp.ret (.int 2)) (nilL))))) (nilA))))) (consL (shr (callF N_4.length (b_4 FU) (oA (own (tupM (consL (Mp.ret (.int 2)) (consL (Mp.ret (.int 3)) (nilL))))) (oA (own (tupM (consL (Mp.ret (.int 0)) (consL (Mp.ret (.int 1)) (nilL))))) (nilA))))) (consL (shr (callF N_6.length (b_6 FU) (oA (own (tupM (nilL))) (oA (own (tupM (nilL))) (nilA))))) (nilL)))))))) (shr (lstM (consL (tupM (consL (negM (Mp.ret (.int 3))) (consL (Mp.ret (.int 2)) (nilL)))) (consL (tupM (consL (Mp.ret (.int 0)) (consL (Mp.ret (.int 1)) (nilL)))) (consL (tupM (consL (Mp.ret (.int 0)) (consL (Mp.ret (.int 1)) (nilL)))) (consL (tupM (consL (Mp.ret (.int 0)) (consL (Mp.ret (.int 1)) (nilL)))) (consL (tupM (consL (Mp.ret (.int 0)) (consL (Mp.ret (.int 1)) (nilL)))) (nilL)))))))))))) env = (.ok (.rt (.sh (.bl true))), env) := by
  have sm : ∀ (b : Int) (n : Nat), b.natAbs ≤ n → n < 2 ^ 9000 → Small b := fun b n h1 h2 => small_le h1 h2
  obtain ⟨e1, h1⟩ := b2_ok hF 6 (-4) (by decide) (sm _ 4 (by decide) (by decide +kernel))
  obtain ⟨e2, h2⟩ := b2_ok hF 0 (-5) (by decide) (sm _ 5 (by decide) (by decide +kernel))
  obtain ⟨e3, h3⟩ := b3_ok hF 1 2 (-1) 2 (sm _ 1 (by decide) (by decide +kernel)) (sm _ 2 (by decide) (by decide +kernel)) (sm _ 1 (by decide) (by decide +kernel)) (sm _ 2 (by decide) (by decide +kernel)) (by decide) (sm _ 4 (by decide) (by decide +kernel))
  obtain ⟨e4, h4⟩ := b4_ok hF 2 3 0 1 (sm _ 2 (by decide) (by decide +kernel)) (sm _ 3 (by decide) (by decide +kernel)) (sm _ 0 (by decide) (by decide +kernel)) (sm _ 1 (by decide) (by decide +kernel)) (by decide) (sm _ 3 (by decide) (by decide +kernel))
  obtain ⟨e5, h5⟩ := b6_ok hF [] (by decide) (by simp) (.tup []) (.tup []) rfl rfl
  have l1 : low 6 (-4) = (-3, 2) := by decide
  have l2 : low 0 (-5) = (0, 1) := by decide
  have l3 : low (1 * 2 + -1 * 2) (2 * 2) = (0, 1) := by decide
  have l4 : low (2 * 0) (3 * 1) = (0, 1) := by decide
  have l5 : rsum (0, 1) [] = (0, 1) := rfl
  rw [l1] at h1
  rw [l2] at h2
  rw [l3] at h3
  rw [l4] at h4
  rw [l5] at h5
  have tp : ∀ (a b : Int), own (tupM (consL (Mp.ret (.int a)) (consL (Mp.ret (.int b)) nilL))) env = (.ok (.sh (fr a b)), env) := fun a b => by simp [v_bnd, v_ret, v_lift, v_bad, v_shr, v_own, v_getV, v_bin, v_cmpM, v_ofB, v_tru, v_notM, v_andM, v_orM, v_andV, v_orV, v_iteM, v_nilL, v_consL, v_tupM, v_lstM, v_callM, v_negM, v_ixM, v_lookV, v_vixM, v_vvxM, v_scal1, v_noE, v_someE, v_sliceM, v_revM, v_isiM, v_skipM, v_seqM, v_retM, v_dropM, v_ifM, v_putV, v_setM, v_puts0, v_puts1, v_parM, v_bindN, v_bindT, v_asgM, v_forM, v_valM, v_rng1M, v_rng2M, v_zipM, v_setKM, v_mutN, v_mutK, v_dispM, v_nilA, v_oA, v_bA, cmp_ne, cmp_eq, cmp_lt, cmp_gt, cmp_le, cmp_ge, bin_add, bin_sub, bin_mul, bin_mod, bin_div, O.share, truF, List.getElem?_cons_zero, List.getElem?_cons_succ, lim]
  have tn : ∀ (a b : Int), own (tupM (consL (negM (Mp.ret (.int a))) (consL (Mp.ret (.int b)) nilL))) env = (.ok (.sh (fr (-a) b)), env) := fun a b => by simp [v_bnd, v_ret, v_lift, v_bad, v_shr, v_own, v_getV, v_bin, v_cmpM, v_ofB, v_tru, v_notM, v_andM, v_orM, v_andV, v_orV, v_iteM, v_nilL, v_consL, v_tupM, v_lstM, v_callM, v_negM, v_ixM, v_lookV, v_vixM, v_vvxM, v_scal1, v_noE, v_someE, v_sliceM, v_revM, v_isiM, v_skipM, v_seqM, v_retM, v_dropM, v_ifM, v_putV, v_setM, v_puts0, v_puts1, v_parM, v_bindN, v_bindT, v_asgM, v_forM, v_valM, v_rng1M, v_rng2M, v_zipM, v_setKM, v_mutN, v_mutK, v_dispM, v_nilA, v_oA, v_bA, cmp_ne, cmp_eq, cmp_lt, cmp_gt, cmp_le, cmp_ge, bin_add, bin_sub, bin_mul, bin_mod, bin_div, O.share, truF, List.getElem?_cons_zero, List.getElem?_cons_succ, lim]
  have t0 : own (tupM nilL) env = (.ok (.sh (.tup [])), env) := by simp [v_bnd, v_ret, v_lift, v_bad, v_shr, v_own, v_getV, v_bin, v_cmpM, v_ofB, v_tru, v_notM, v_andM, v_orM, v_andV, v_orV, v_iteM, v_nilL, v_consL, v_tupM, v_lstM, v_callM, v_negM, v_ixM, v_lookV, v_vixM, v_vvxM, v_scal1, v_noE, v_someE, v_sliceM, v_revM, v_isiM, v_skipM, v_seqM, v_retM, v_dropM, v_ifM, v_putV, v_setM, v_puts0, v_puts1, v_parM, v_bindN, v_bindT, v_asgM, v_forM, v_valM, v_rng1M, v_rng2M, v_zipM, v_setKM, v_mutN, v_mutK, v_dispM, v_nilA, v_oA, v_bA, cmp_ne, cmp_eq, cmp_lt, cmp_gt, cmp_le, cmp_ge, bin_add, bin_sub, bin_mul, bin_mod, bin_div, O.share, truF, List.getElem?_cons_zero, List.getElem?_cons_succ, lim]
  have r : (lstM (consL (tupM (consL (negM (Mp.ret (.int 3))) (consL (Mp.ret (.int 2)) (nilL)))) (consL (tupM (consL (Mp.ret (.int 0)) (consL (Mp.ret (.int 1)) (nilL)))) (consL (tupM (consL (Mp.ret (.int 0)) (consL (Mp.ret (.int 1)) (nilL)))) (consL (tupM (consL (Mp.ret (.int 0)) (consL (Mp.ret (.int 1)) (nilL)))) (consL (tupM (consL (Mp.ret (.int 0)) (consL (Mp.ret (.int 1)) (nilL)))) (nilL))))))) env = (.ok (.lst ([fr (-3) 2, fr 0 1, fr 0 1, fr 0 1, fr 0 1].map .sh)), env) := by simp [v_bnd, v_ret, v_lift, v_bad, v_shr, v_own, v_getV, v_bin, v_cmpM, v_ofB, v_tru, v_notM, v_andM, v_orM, v_andV, v_orV, v_iteM, v_nilL, v_consL, v_tupM, v_lstM, v_callM, v_negM, v_ixM, v_lookV, v_vixM, v_vvxM, v_scal1, v_noE, v_someE, v_sliceM, v_revM, v_isiM, v_skipM, v_seqM, v_retM, v_dropM, v_ifM, v_putV, v_setM, v_puts0, v_puts1, v_parM, v_bindN, v_bindT, v_asgM, v_forM, v_valM, v_rng1M, v_rng2M, v_zipM, v_setKM, v_mutN, v_mutK, v_dispM, v_nilA, v_oA, v_bA, cmp_ne, cmp_eq, cmp_lt, cmp_gt, cmp_le, cmp_ge, bin_add, bin_sub, bin_mul, bin_mod, bin_div, O.share, truF, List.getElem?_cons_zero, List.getElem?_cons_succ, lim]
  exact ret_cmp (lst_ok (consS (call2 (x := .sh (.int 6)) (y := .sh (.int (-4))) rfl rfl h1) (consS (call2 (x := .sh (.int 0)) (y := .sh (.int (-5))) rfl rfl h2) (consS (call2 (tp 1 2) (tn 1 2) h3) (consS (call2 (tp 2 3) (tp 0 1) h4) (consS (call2 t0 t0 h5) rfl))))) (by simp [lim])) r (by decide +kernel)
theorem law_all {FU : Nat} (hF : 18001 ≤ FU) (ns : List Int) (hl : ns.length ≤ 63) : ∃ e, b_16 FU (startE N_16.length [.sh (.scr ns)]) = (.ok (.rt (.sh (.bl true))), e) := by
  obtain ⟨s, hs, h0⟩ := t0 (FU := FU) (ns := ns) hl
  obtain ⟨e1, h1, _⟩ := laps (FU := FU) (ns := ns) hF (rngL 0 6) _ ⟨s, none, none, none, none, none, none, none, none, none, none, none, hs, rfl⟩
  have h2 := last_ok hF e1
  have hr : rng1M (consL (Mp.ret (.int 6)) nilL) (E ns s none none none none none none none none none none none) = (.ok (rngL 0 6), E ns s none none none none none none none none none none none) := rfl
  refine ⟨e1, ?_⟩
  show b_16 FU [some (.sh (.scr ns)), none, none, none, none, none, none, none, none, none, none, none, none, none] = _
  exact seq_go h0 (seq_go (by rw [v_forM, v_bnd, hr]; exact h1) h2)
end La
end
namespace La
section
open PySem PySem.Spec PyProof.Rows L2 Mp
theorem law_true (ns : List Int) (hl : ns.length ≤ 63) (hb : ∀ z ∈ ns, Builtin.Int.intBits z ≤ 1048576) : ∃ e, b_16 FUEL (startE N_16.length [.sh (.scr ns)]) = (.ok (.rt (.sh (.bl true))), e) := by
  exact law_all (by decide) ns hl
end
end La
open PySem PySem.W PySem.Calls PyProof.Rows
theorem PySem.Challenge.cw_eitherbarter_k21_fractions_holds : PySem.Challenge.rw_eitherbarter_k21_fractions.Holds := by
  w_on; o_law
  refine HandSHeadRun.head_any (r := OpenLaw.row PySem.Challenge.rw_eitherbarter_k21_fractions) (q := view (OpenLaw.row PySem.Challenge.rw_eitherbarter_k21_fractions).prog [19]) (H := La.hk) (ob := La.ob) (M := 3000) (loose := La.loose) (d := HandSHeadRun.topDef (OpenLaw.row PySem.Challenge.rw_eitherbarter_k21_fractions).prog 19) (kwd := []) La.ob_eq
    (by kernel_rfl) (fun s => by kernel_rfl) La.run (by kernel_rfl) (by kernel_rfl) (by kernel_rfl) (by rfl) (by first | assumption | decide +kernel) (by decide +kernel) ⟨rfl, rfl, rfl, rfl, rfl, by decide +kernel⟩ ?hw ?hc
  case hw => w_witness2
  case hc =>
    refine Mp.walk_ofG (l := PySem.Challenge.rw_eitherbarter_k21_fractions) (n := 63) (k := 5) (x := "_law_script") rfl (by decide) (by kernel_rfl) ⟨rfl, by decide, by decide⟩ fun w mg fa h Y G hmg0 => ?_
    obtain ⟨K, KX, c⟩ := Y
    have hmg : mg ("law" : PySem.Str) = some (.ref fa) := by
      have e : (HandSHeadRun.topDef (OpenLaw.row PySem.Challenge.rw_eitherbarter_k21_fractions).prog 19).name = ("law" : PySem.Str) := by kernel_rfl
      rw [← e]
      exact hmg0
    obtain ⟨fd, hb, hF⟩ := La.facts (P := (PySem.Challenge.rw_eitherbarter_k21_fractions).prog) (w := w) KX G hmg c
    exact ⟨K, fd, _, KX, hb, fun H a ns hl hbits _ hS => Mp.law_sp (c := La.Wc K) (J := La.J0) trivial hS (La.law_true ns hl hbits), fun base _ _ => hF base⟩
