import PyProof.Rows.All
import Wide.All
import OpenK.AllK
import Wide.FinOn
import HandS.ForExc
import HandS.ForMost
import HandS.Wide
import HandS.Defaults
import HandS.MakeKw
import HandS.Property
import HandS.Zip
import HandS.IsInst
import HandS.Flow
import HandS.Style
import HandS.More
import HandS.Codes
import HandS.MakeKwOnly
import HandS.Text
import HandS.Head0
import HandS.Head1
import HandS.Head2
import HandS.HeadEnd
import HandS.HeadHook4
import PySem.Challenge.RW_surenear_k92_counts_bound_no_record_too
import Lean
set_option Elab.async false
set_option linter.all false
set_option maxRecDepth 100000
/-! J: a small logic over the hand layer. A state is told by three things: what never changes (F, frozen), what is owned (L, a list of atoms, apart from each other and from F), and what the slots hold (G, one predicate a slot). -/
namespace J
open PySem PySem.Spec PyProof.Rows L2

abbrev Ext (F F' : Hp) : Prop := ∀ a o, F a = some o → F' a = some o
theorem Ext.refl (F : Hp) : Ext F F := fun _ _ h => h
theorem Ext.trans {F F1 F2 : Hp} (a : Ext F F1) (b : Ext F1 F2) : Ext F F2 := fun x o h => b x o (a x o h)

/-- a predicate on a value over the frozen part -/
structure MP where
  p : V → Hp → Prop
  mono : ∀ {v F F'}, Ext F F' → p v F → p v F'
/-- an atom: a predicate on a chunk of the owned part, over the frozen part -/
structure Atm where
  p : Hp → Hp → Prop
  mono : ∀ {F F' h}, Ext F F' → p F h → p F' h

def emp : Hp := fun _ => none
def jn (h1 h2 : Hp) : Hp := fun a => match h1 a with | some o => some o | none => h2 a
def dj (h1 h2 : Hp) : Prop := ∀ a, h1 a = none ∨ h2 a = none
def one (q : Addr) (o : HO) : Hp := fun a => if a = q then some o else none
theorem jn_l {h1 h2 : Hp} {a : Addr} {o : HO} (h : h1 a = some o) : jn h1 h2 a = some o := by unfold jn; rw [h]
theorem jn_r {h1 h2 : Hp} {a : Addr} (h : h1 a = none) : jn h1 h2 a = h2 a := by unfold jn; rw [h]
theorem jn_none {h1 h2 : Hp} {a : Addr} : jn h1 h2 a = none ↔ h1 a = none ∧ h2 a = none := by
  unfold jn
  cases e : h1 a with
  | none => simp
  | some o => simp
theorem jn_some {h1 h2 : Hp} {a : Addr} {o : HO} (h : jn h1 h2 a = some o) : h1 a = some o ∨ (h1 a = none ∧ h2 a = some o) := by
  unfold jn at h
  cases e : h1 a with
  | none => rw [e] at h; exact Or.inr ⟨rfl, h⟩
  | some u => rw [e] at h; exact Or.inl h
theorem one_same {q : Addr} {o : HO} : one q o q = some o := by unfold one; rw [if_pos rfl]
theorem one_ne {q a : Addr} {o : HO} (h : a ≠ q) : one q o a = none := by unfold one; rw [if_neg h]
theorem dj.symm {h1 h2 : Hp} (h : dj h1 h2) : dj h2 h1 := fun a => (h a).symm
theorem ext_jl {h1 h2 : Hp} : Ext h1 (jn h1 h2) := fun _ _ h => jn_l h
theorem ext_jr {h1 h2 : Hp} (d : dj h1 h2) : Ext h2 (jn h1 h2) := fun a o h => by
  rcases d a with e | e
  · rw [jn_r e]; exact h
  · rw [e] at h; cases h

inductive Sat (F : Hp) : List Atm → Hp → Prop
  | nil : Sat F [] emp
  | cons {P : Atm} {L : List Atm} {h1 h2 : Hp} : P.p F h1 → Sat F L h2 → dj h1 h2 → Sat F (P :: L) (jn h1 h2)
theorem Sat.mono {F F' : Hp} (e : Ext F F') : ∀ {L : List Atm} {O : Hp}, Sat F L O → Sat F' L O
  | _, _, .nil => .nil
  | _, _, .cons h s d => .cons (Atm.mono _ e h) (Sat.mono e s) d
/-- an atom within: its chunk, and what stands if it is put otherwise -/
theorem Sat.at {F : Hp} : ∀ {L : List Atm} {O : Hp} {i : Nat} {P : Atm}, Sat F L O → L[i]? = some P →
    ∃ h1 R, P.p F h1 ∧ dj h1 R ∧ (∀ a, O a = jn h1 R a) ∧ Sat F (L.eraseIdx i) R ∧ ∀ P' h1', P'.p F h1' → dj h1' R → ∃ O', Sat F (L.set i P') O' ∧ ∀ a, O' a = jn h1' R a
  | _, _, 0, P, .cons (P := P0) (h1 := h1) (h2 := h2) h s d, e => by
    have e' : P0 = P := by simpa using e
    subst e'
    exact ⟨h1, h2, h, d, fun _ => rfl, s, fun P' h1' hp hd => ⟨jn h1' h2, .cons hp s hd, fun _ => rfl⟩⟩
  | _, _, i + 1, P, .cons (P := P0) (L := L0) (h1 := g) (h2 := h2) h s d, e => by
    have e' : L0[i]? = some P := by simpa using e
    obtain ⟨h1, R, p1, d1, o1, s1, k⟩ := Sat.at s e'
    have dg : dj g h1 := fun a => by
      rcases d a with q | q
      · exact Or.inl q
      · rw [o1, jn_none] at q; exact Or.inr q.1
    have dgR : dj g R := fun a => by
      rcases d a with q | q
      · exact Or.inl q
      · rw [o1, jn_none] at q; exact Or.inr q.2
    refine ⟨h1, jn g R, p1, fun a => ?_, fun a => ?_, .cons h s1 dgR, fun P' h1' hp hd => ?_⟩
    · rcases d1 a with q | q
      · exact Or.inl q
      · rcases dg a with z | z
        · exact Or.inr (jn_none.mpr ⟨z, q⟩)
        · exact Or.inl z
    · show jn g h2 a = jn h1 (jn g R) a
      cases eg : g a with
      | some o =>
        have z : h1 a = none := (dg a).resolve_left (by rw [eg]; simp)
        rw [jn_l eg, jn_r z, jn_l eg]
      | none =>
        rw [jn_r eg, o1]
        cases e1 : h1 a with
        | some o => rw [jn_l e1, jn_l e1]
        | none => rw [jn_r e1, jn_r e1, jn_r eg]
    · have hd1 : dj h1' R := fun a => by
        rcases hd a with q | q
        · exact Or.inl q
        · exact Or.inr (jn_none.mp q).2
      have hd2 : dj g h1' := fun a => by
        rcases hd a with q | q
        · exact Or.inr q
        · exact Or.inl (jn_none.mp q).1
      obtain ⟨O', s', o'⟩ := k P' h1' hp hd1
      have dO : dj g O' := fun a => by
        cases eg : g a with
        | none => exact Or.inl rfl
        | some o =>
          refine Or.inr ?_
          rw [o', jn_none]
          exact ⟨(hd2 a).resolve_left (by rw [eg]; simp), (dgR a).resolve_left (by rw [eg]; simp)⟩
      refine ⟨jn g O', .cons h s' dO, fun a => ?_⟩
      cases eg : g a with
      | some o =>
        have z : h1' a = none := (hd2 a).resolve_left (by rw [eg]; simp)
        rw [jn_l eg, jn_r z, jn_l eg]
      | none =>
        rw [jn_r eg, o']
        cases e1 : h1' a with
        | some o => rw [jn_l e1, jn_l e1]
        | none => rw [jn_r e1, jn_r e1, jn_r eg]

/-- the state: F frozen, L owned, H the tracked heap -/
def Sep (F : Hp) (L : List Atm) (H : Hp) : Prop := ∃ O, Sat F L O ∧ dj F O ∧ Ext F H ∧ Ext O H
theorem Sep.ext {F H : Hp} {L : List Atm} (s : Sep F L H) : Ext F H := let ⟨_, _, _, e, _⟩ := s; e
theorem Sep.base {H : Hp} : Sep H [] H := ⟨emp, .nil, fun a => Or.inr rfl, Ext.refl H, fun a o h => by cases h⟩
theorem free_of {F H : Hp} (e : Ext F H) {q : Addr} (h : H q = none) : F q = none := by
  cases z : F q with
  | none => rfl
  | some o => rw [e q o z] at h; cases h
theorem ext_upd {H : Hp} {q : Addr} {o : HO} (h : H q = none) : Ext H (upd H q o) := fun a u e => by
  rw [upd_ne (ne_of_none e h)]; exact e
theorem ext_upd2 {F H : Hp} {q : Addr} {o : HO} (e : Ext F H) (h : F q = none) : Ext F (upd H q o) := fun a u ha => by
  rw [upd_ne (ne_of_none ha h)]; exact e a u ha
theorem ext_both {F H : Hp} {q : Addr} {o : HO} (e : Ext F H) : Ext (upd F q o) (upd H q o) := fun a u ha => by
  by_cases z : a = q
  · subst z; rw [upd_same] at ha ⊢; exact ha
  · rw [upd_ne z] at ha ⊢; exact e a u ha
/-- a new object that will not change -/
theorem Sep.put {F H : Hp} {L : List Atm} {q : Addr} {o : HO} (s : Sep F L H) (h : H q = none) : Ext F (upd F q o) ∧ Sep (upd F q o) L (upd H q o) := by
  obtain ⟨O, s1, d, e, eo⟩ := s
  have fq := free_of e h
  have oq := free_of eo h
  refine ⟨ext_upd fq, O, s1.mono (ext_upd fq), fun a => ?_, ext_both e, ext_upd2 eo oq⟩
  by_cases z : a = q
  · subst z; exact Or.inr oq
  · rcases d a with x | x
    · exact Or.inl (by rw [upd_ne z]; exact x)
    · exact Or.inr x
/-- a new object that is owned -/
theorem Sep.own {F H : Hp} {L : List Atm} {q : Addr} {o : HO} {P : Atm} (s : Sep F L H) (h : H q = none) (hp : P.p F (one q o)) : Sep F (P :: L) (upd H q o) := by
  obtain ⟨O, s1, d, e, eo⟩ := s
  have fq := free_of e h
  have oq := free_of eo h
  refine ⟨jn (one q o) O, .cons hp s1 fun a => ?_, fun a => ?_, ext_upd2 e fq, fun a u ha => ?_⟩
  · by_cases z : a = q
    · subst z; exact Or.inr oq
    · exact Or.inl (one_ne z)
  · by_cases z : a = q
    · subst z; exact Or.inl fq
    · rcases d a with x | x
      · exact Or.inl x
      · exact Or.inr (jn_none.mpr ⟨one_ne z, x⟩)
  · rcases jn_some ha with x | ⟨x, y⟩
    · by_cases z : a = q
      · subst z; rw [one_same] at x; rw [upd_same]; exact x
      · rw [one_ne z] at x; cases x
    · by_cases z : a = q
      · subst z; rw [one_same] at x; cases x
      · rw [upd_ne z]; exact eo a u y
/-- an owned atom: its chunk stands in H; another one over the same places may take its place -/
theorem Sep.at {F H : Hp} {L : List Atm} {i : Nat} {P : Atm} (s : Sep F L H) (hi : L[i]? = some P) : ∃ h1, P.p F h1 ∧ Ext h1 H ∧ dj F h1 ∧
    (∀ P' h1', P'.p F h1' → (∀ a, h1 a = none → h1' a = none) → ∀ H', (∀ a o, h1' a = some o → H' a = some o) → (∀ a, h1 a = none → H' a = H a) → Sep F (L.set i P') H') ∧
    Sep F (L.eraseIdx i) H ∧ Ext F (jn F h1) ∧ Sep (jn F h1) (L.eraseIdx i) H := by
  obtain ⟨O, s1, d, e, eo⟩ := s
  obtain ⟨h1, R, p1, d1, o1, sr, k⟩ := s1.at hi
  have dF1 : dj F h1 := fun a => by
    rcases d a with x | x
    · exact Or.inl x
    · rw [o1, jn_none] at x; exact Or.inr x.1
  have dFR : dj F R := fun a => by
    rcases d a with x | x
    · exact Or.inl x
    · rw [o1, jn_none] at x; exact Or.inr x.2
  have e1 : Ext h1 H := fun a o h => eo a o (by rw [o1]; exact jn_l h)
  have eR : Ext R H := fun a o h => eo a o (by rw [o1]; exact ext_jr d1 a o h)
  refine ⟨h1, p1, e1, dF1, fun P' h1' hp hs H' hH hK => ?_, ⟨R, sr, dFR, e, eR⟩, ext_jl, ⟨R, sr.mono ext_jl, fun a => ?_, fun a o h => ?_, eR⟩⟩
  · have dj' : dj h1' R := fun a => by
      rcases d1 a with x | x
      · exact Or.inl (hs a x)
      · exact Or.inr x
    obtain ⟨O', s', o'⟩ := k P' h1' hp dj'
    refine ⟨O', s', fun a => ?_, fun a o ha => ?_, fun a o ha => ?_⟩
    · rcases dF1 a with x | x
      · exact Or.inl x
      · rcases dFR a with y | y
        · exact Or.inl y
        · exact Or.inr (by rw [o', jn_none]; exact ⟨hs a x, y⟩)
    · have x : h1 a = none := (dF1 a).resolve_left (by rw [ha]; simp)
      rw [hK a x]; exact e a o ha
    · rw [o'] at ha
      rcases jn_some ha with x | ⟨x, y⟩
      · exact hH a o x
      · have z : h1 a = none := (d1 a).resolve_right (by rw [y]; simp)
        rw [hK a z]; exact eR a o y
  · rcases d1 a with x | x
    · rcases dFR a with y | y
      · exact Or.inl (jn_none.mpr ⟨y, x⟩)
      · exact Or.inr y
    · exact Or.inr x
  · rcases jn_some h with x | ⟨_, x⟩
    · exact e a o x
    · exact e1 a o x
theorem Sep.drop {F H : Hp} {L : List Atm} {P : Atm} (s : Sep F (P :: L) H) : Sep F L H :=
  let ⟨_, _, _, _, _, z, _⟩ := s.at (i := 0) rfl; z

/-! ### the order of atoms is free -/
theorem jn_comm {h1 h2 : Hp} (d : dj h1 h2) (a : Addr) : jn h1 h2 a = jn h2 h1 a := by
  cases e : h1 a with
  | none =>
    rw [jn_r e]
    cases e2 : h2 a with
    | none => rw [jn_r e2, e]
    | some o => rw [jn_l e2]
  | some o =>
    have z : h2 a = none := (d a).resolve_left (by rw [e]; simp)
    rw [jn_l e, jn_r z, e]
theorem Sat.perm {F : Hp} {L L' : List Atm} (p : L.Perm L') : ∀ {O : Hp}, Sat F L O → ∃ O', Sat F L' O' ∧ ∀ a, O' a = O a := by
  induction p with
  | nil => exact fun s => ⟨_, s, fun _ => rfl⟩
  | cons x _ ih =>
    intro O s
    cases s with
    | cons h s d =>
      rename_i h1 h2
      obtain ⟨O', s', e⟩ := ih s
      refine ⟨jn h1 O', .cons h s' fun a => ?_, fun a => ?_⟩
      · rcases d a with x | x
        · exact Or.inl x
        · exact Or.inr (by rw [e]; exact x)
      · cases q : h1 a with
        | none => rw [jn_r q, jn_r q, e]
        | some o => rw [jn_l q, jn_l q]
  | swap x y l =>
    intro O s
    cases s with
    | cons h s d =>
      cases s with
      | cons h' s d' =>
        rename_i h1 h2 h3
        have d12 : dj h1 h2 := fun a => by
          rcases d a with z | z
          · exact Or.inl z
          · exact Or.inr (jn_none.mp z).1
        have d13 : dj h1 h3 := fun a => by
          rcases d a with z | z
          · exact Or.inl z
          · exact Or.inr (jn_none.mp z).2
        refine ⟨jn h2 (jn h1 h3), .cons h' (.cons h s d13) fun a => ?_, fun a => ?_⟩
        · rcases d' a with z | z
          · exact Or.inl z
          · rcases d12 a with w | w
            · exact Or.inr (jn_none.mpr ⟨w, z⟩)
            · exact Or.inl w
        · cases q : h2 a with
          | none =>
            rw [jn_r q]
            cases q1 : h1 a with
            | none => rw [jn_r q1, jn_r q1, jn_r q]
            | some o => rw [jn_l q1, jn_l q1]
          | some o =>
            have z : h1 a = none := (d12 a).resolve_right (by rw [q]; simp)
            rw [jn_l q, jn_r z, jn_l q]
  | trans _ _ ih1 ih2 =>
    intro O s
    obtain ⟨O1, s1, e1⟩ := ih1 s
    obtain ⟨O2, s2, e2⟩ := ih2 s1
    exact ⟨O2, s2, fun a => (e2 a).trans (e1 a)⟩
theorem Sep.perm {F H : Hp} {L L' : List Atm} (p : L.Perm L') (s : Sep F L H) : Sep F L' H := by
  obtain ⟨O, s1, d, e, eo⟩ := s
  obtain ⟨O', s', q⟩ := s1.perm p
  refine ⟨O', s', fun a => ?_, e, fun a o h => eo a o (by rw [← q]; exact h)⟩
  rw [q]
  exact d a
theorem Sep.mid {F H : Hp} {P : Atm} {L Fr : List Atm} (s : Sep F (P :: (L ++ Fr)) H) : Sep F (L ++ P :: Fr) H := s.perm List.perm_middle.symm
theorem Sep.unmid {F H : Hp} {P : Atm} {L Fr : List Atm} (s : Sep F (L ++ P :: Fr) H) : Sep F (P :: (L ++ Fr)) H := s.perm List.perm_middle

/-! ### predicates of values -/
section
variable (K : PySem.W.Frag)
def All : List MP → List V → Hp → Prop
  | [], [], _ => True
  | R :: Rs, v :: vs, F => R.p v F ∧ All Rs vs F
  | _, _, _ => False
end
theorem All.mono {F F' : Hp} (e : Ext F F') : ∀ {Rs : List MP} {vs : List V}, All Rs vs F → All Rs vs F'
  | [], [], _ => trivial
  | R :: Rs, v :: vs, h => ⟨R.mono e h.1, All.mono e h.2⟩
  | [], _ :: _, h => h
  | _ :: _, [], h => h
theorem All.len {F : Hp} : ∀ {Rs : List MP} {vs : List V}, All Rs vs F → Rs.length = vs.length
  | [], [], _ => rfl
  | R :: Rs, v :: vs, h => congrArg Nat.succ (All.len h.2)
  | [], _ :: _, h => h.elim
  | _ :: _, [], h => h.elim
theorem All.get {F : Hp} : ∀ {Rs : List MP} {vs : List V} {i : Nat} {v : V}, All Rs vs F → vs[i]? = some v → ∃ R, Rs[i]? = some R ∧ R.p v F
  | [], [], i, v, _, e => by simp at e
  | R :: Rs, v :: vs, 0, u, h, e => by
    have e' : v = u := by simpa using e
    subst e'
    exact ⟨R, rfl, h.1⟩
  | R :: Rs, v :: vs, i + 1, u, h, e => by
    obtain ⟨R', e1, e2⟩ := All.get (i := i) (v := u) h.2 (by simpa using e)
    exact ⟨R', by simpa using e1, e2⟩
  | [], _ :: _, _, _, h, _ => h.elim
  | _ :: _, [], _, _, h, _ => h.elim
theorem All.val {F : Hp} {Rs : List MP} {vs : List V} {i : Nat} {R : MP} (h : All Rs vs F) (e : Rs[i]? = some R) : ∃ v, vs[i]? = some v ∧ R.p v F := by
  have l := h.len
  have hi : i < vs.length := by rw [← l]; exact (List.getElem?_eq_some_iff.mp e).1
  obtain ⟨R', e1, e2⟩ := h.get (List.getElem?_eq_getElem hi)
  rw [e] at e1
  cases e1
  exact ⟨_, List.getElem?_eq_getElem hi, e2⟩
theorem All.append {F : Hp} : ∀ {Rs Ss : List MP} {vs us : List V}, All Rs vs F → All Ss us F → All (Rs ++ Ss) (vs ++ us) F
  | [], _, [], _, _, h => h
  | R :: Rs, _, v :: vs, _, h, k => ⟨h.1, All.append h.2 k⟩
  | [], _, _ :: _, _, h, _ => h.elim
  | _ :: _, _, [], _, h, _ => h.elim
theorem All.set {F : Hp} {R : MP} {v : V} (hv : R.p v F) : ∀ {Rs : List MP} {vs : List V} (i : Nat), All Rs vs F → All (Rs.set i R) (vs.set i v) F
  | [], [], _, _ => trivial
  | S :: Rs, u :: vs, 0, h => ⟨hv, h.2⟩
  | S :: Rs, u :: vs, i + 1, h => ⟨h.1, All.set hv i h.2⟩
  | [], _ :: _, _, h => h.elim
  | _ :: _, [], _, h => h.elim

theorem seqL_mono {K : PySem.W.Frag} {F F' : Hp} {a : Addr} {xs : List V} (e : Ext F F') (h : SqL K F a xs) : SqL K F' a xs := by
  rcases h with (h | ⟨o, h⟩) | h
  · exact .inl (.inl (e _ _ h))
  · exact .inl (.inr ⟨o, e _ _ h⟩)
  · exact .inr h
theorem seqT_mono {K : PySem.W.Frag} {F F' : Hp} {a : Addr} {xs : List V} (e : Ext F F') (h : SqT K F a xs) : SqT K F' a xs := by
  rcases h with (h | ⟨o, h⟩) | h
  · exact .inl (.inl (e _ _ h))
  · exact .inl (.inr ⟨o, e _ _ h⟩)
  · exact .inr h

def IsV (x : V) : MP := ⟨fun v _ => v = x, fun _ h => h⟩
abbrev IsInt (i : Int) : MP := IsV (.int i)
abbrev IsBool (b : Bool) : MP := IsV (.bl b)
abbrev IsStr (s : Str) : MP := IsV (.str s)
abbrev IsNone : MP := IsV .non
abbrev IsAddr (a : Addr) : MP := IsV (.ref a)
def IsAny : MP := ⟨fun _ _ => True, fun _ h => h⟩
/-- a frozen tuple, a frozen list -/
def IsTup (K : PySem.W.Frag) (Rs : List MP) : MP := ⟨fun v F => ∃ a vs, v = .ref a ∧ SqT K F a vs ∧ All Rs vs F, fun e ⟨a, vs, h1, h2, h3⟩ => ⟨a, vs, h1, seqT_mono e h2, h3.mono e⟩⟩
def IsLst (K : PySem.W.Frag) (Rs : List MP) : MP := ⟨fun v F => ∃ a vs, v = .ref a ∧ SqL K F a vs ∧ All Rs vs F, fun e ⟨a, vs, h1, h2, h3⟩ => ⟨a, vs, h1, seqL_mono e h2, h3.mono e⟩⟩
/-- a frozen instance of the class at C with the attributes ns -/
def IsIns (C : Addr) (ns : List Str) (Rs : List MP) : MP := ⟨fun v F => ∃ a dx vs, v = .ref a ∧ F a = some (.ins C dx (ns.zip vs)) ∧ ns.length = vs.length ∧ All Rs vs F, fun e ⟨a, dx, vs, h1, h2, h3, h4⟩ => ⟨a, dx, vs, h1, e _ _ h2, h3, h4.mono e⟩⟩
/-- one of several -/
def IsEx {α : Type} (R : α → MP) : MP := ⟨fun v F => ∃ x, (R x).p v F, fun e ⟨x, h⟩ => ⟨x, (R x).mono e h⟩⟩
/-- an owned list of raw values; of values by predicates -/
def AtL (q : Addr) (Rs : List MP) : Atm := ⟨fun F h => ∃ vs, h = one q (.lst vs) ∧ All Rs vs F, fun e ⟨vs, h1, h2⟩ => ⟨vs, h1, h2.mono e⟩⟩
/-- an owned instance with its own dict -/
def AtI (q C : Addr) (ns : List Str) (Rs : List MP) : Atm := ⟨fun F h => ∃ dx vs, dx ≠ q ∧ h = jn (one q (.ins C dx (ns.zip vs))) (one dx (.own q)) ∧ ns.length = vs.length ∧ All Rs vs F,
  fun e ⟨dx, vs, h0, h1, h2, h3⟩ => ⟨dx, vs, h0, h1, h2, h3.mono e⟩⟩

/-! ### the slots -/
abbrev Gam := List (Option MP)
def Env : Gam → L2.St → Hp → Prop
  | [], [], _ => True
  | none :: G, _ :: σ, F => Env G σ F
  | some R :: G, x :: σ, F => (∃ v, x = some v ∧ R.p v F) ∧ Env G σ F
  | _, _, _ => False
theorem Env.mono {F F' : Hp} (e : Ext F F') : ∀ {G : Gam} {σ : L2.St}, Env G σ F → Env G σ F'
  | [], [], _ => trivial
  | none :: G, _ :: σ, h => Env.mono (G := G) (σ := σ) e h
  | some R :: G, x :: σ, h => ⟨let ⟨v, a, b⟩ := h.1; ⟨v, a, R.mono e b⟩, Env.mono e h.2⟩
  | [], _ :: _, h => h
  | none :: _, [], h => h
  | some _ :: _, [], h => h
theorem Env.get {F : Hp} : ∀ {G : Gam} {σ : L2.St} {i : Nat} {R : MP}, Env G σ F → G[i]? = some (some R) → ∃ v, σ[i]? = some (some v) ∧ R.p v F
  | [], [], i, R, _, e => by simp at e
  | none :: G, _ :: σ, 0, R, _, e => by simp at e
  | none :: G, _ :: σ, i + 1, R, h, e => by
    obtain ⟨v, a, b⟩ := Env.get (G := G) (σ := σ) (i := i) (R := R) h (by simpa using e)
    exact ⟨v, by simpa using a, b⟩
  | some S :: G, x :: σ, 0, R, h, e => by
    have e' : S = R := by simpa using e
    subst e'
    obtain ⟨⟨v, a, b⟩, _⟩ := h
    subst a
    exact ⟨v, rfl, b⟩
  | some S :: G, x :: σ, i + 1, R, h, e => by
    obtain ⟨v, a, b⟩ := Env.get (G := G) (σ := σ) (i := i) (R := R) h.2 (by simpa using e)
    exact ⟨v, by simpa using a, b⟩
  | [], _ :: _, _, _, h, _ => h.elim
  | none :: _, [], _, _, h, _ => h.elim
  | some _ :: _, [], _, _, h, _ => h.elim
theorem Env.set {F : Hp} {R : MP} {v : V} (hv : R.p v F) : ∀ {G : Gam} {σ : L2.St} (i : Nat), Env G σ F → Env (G.set i (some R)) (σ.set i (some v)) F
  | [], [], _, _ => trivial
  | none :: G, _ :: σ, 0, h => ⟨⟨v, rfl, hv⟩, h⟩
  | some S :: G, _ :: σ, 0, h => ⟨⟨v, rfl, hv⟩, h.2⟩
  | none :: G, _ :: σ, i + 1, h => Env.set (G := G) (σ := σ) hv i h
  | some S :: G, _ :: σ, i + 1, h => ⟨h.1, Env.set hv i h.2⟩
  | [], _ :: _, _, h => h.elim
  | none :: _, [], _, h => h.elim
  | some _ :: _, [], _, h => h.elim
/-- weaker slots -/
def Sub : Gam → Gam → Prop
  | [], [] => True
  | _ :: G, none :: G' => Sub G G'
  | some R :: G, some R' :: G' => (∀ v F, R.p v F → R'.p v F) ∧ Sub G G'
  | _, _ => False
theorem Sub.refl : ∀ G : Gam, Sub G G
  | [] => trivial
  | none :: G => Sub.refl G
  | some R :: G => ⟨fun _ _ h => h, Sub.refl G⟩
theorem Env.sub {F : Hp} : ∀ {G G' : Gam} {σ : L2.St}, Sub G G' → Env G σ F → Env G' σ F
  | [], [], [], _, _ => trivial
  | none :: G, none :: G', _ :: σ, s, h => Env.sub (G := G) (G' := G') (σ := σ) s h
  | some R :: G, none :: G', _ :: σ, s, h => Env.sub (G := G) (G' := G') (σ := σ) s h.2
  | some R :: G, some R' :: G', x :: σ, s, h => ⟨let ⟨v, a, b⟩ := h.1; ⟨v, a, s.1 _ _ b⟩, Env.sub s.2 h.2⟩
  | none :: G, some R' :: G', _, s, _ => s.elim
  | [], [], _ :: _, _, h => h.elim
  | [], none :: _, _, s, _ => s.elim
  | [], some _ :: _, _, s, _ => s.elim
  | none :: _, [], _, s, _ => s.elim
  | some _ :: _, [], _, s, _ => s.elim
  | none :: _, _ :: _, [], _, h => h.elim
  | some _ :: _, _ :: _, [], _, h => h.elim
end J
/-! J2: the judgements and their rules. -/
namespace J
open PySem PySem.Spec PyProof.Rows L2

/-! ### the weakest readings -/
section
variable (X : Cx)
def WE (e : Expr) : TE := fun σ H Q => ∀ pins s, Inv X pins σ H s → wpAny (model X.prog X.w) X.A (eval e X.env) (EP X pins σ Q) X.xe s
def WT (e : Expr) : TT := fun σ H Q => ∀ pins s, Inv X pins σ H s → wpAny (model X.prog X.w) X.A (isTrue e X.env (eval e X.env)) (TP X pins σ Q) X.xe s
def WW (e : Expr) : TT := fun σ H Q => ∀ wh pins s, Inv X pins σ H s → wpAny (model X.prog X.w) X.A (isTrue e X.env wh) (TP X pins σ Q) X.xe s
def WA (es : List Expr) : TA := fun σ H Q => ∀ pos pins s, Inv X pins σ H s → wpAny (model X.prog X.w) X.A (spliced (backTo pos (starEach es X.env))) (AP X pins σ Q) X.xe s
def WK (kws : List Keyword) : TA := fun σ H Q => ∀ pos pins s, Inv X pins σ H s → wpAny (model X.prog X.w) X.A (evalAll ((backToKw pos (keywordEach kws X.env)).map (·.2))) (AP X pins σ Q) X.xe s
def WS (st : Stmt) : TS := fun D σ H => ∀ pins s, Inv X pins σ H s → wpAny (model X.prog X.w) X.A (exec st X.env) (SP X pins D) X.xe s
def WB (ss : List Stmt) : TS := fun D σ H => ∀ pins s, Inv X pins σ H s → wpAny (model X.prog X.w) X.A (execs ss X.env) (SP X pins D) X.xe s
def WG (tg : Expr) : TG := fun v σ H Q => ∀ pins s u, Inv X pins σ H s → RelV v u → wpAny (model X.prog X.w) X.A (assign tg X.env u) (fun _ s' => ∃ σ' H', Inv X pins σ' H' s' ∧ Q σ' H') X.xe s
def WGs (ts : List Expr) : TGs := fun vs σ H Q => ∀ pins s us, Inv X pins σ H s → Vals vs us → wpAny (model X.prog X.w) X.A (assignInOrder ((assignEach ts X.env).map (·.2)) us) (fun _ s' => ∃ σ' H', Inv X pins σ' H' s' ∧ Q σ' H') X.xe s
def WI (tg iter : Expr) : TI := fun σ H R => ∀ pins s, Inv X pins σ H s → wpAny (model X.prog X.w) X.A (eval iter X.env) (fun v s1 => wpAny (model X.prog X.w) X.A (pyIter v) (PIE X pins σ tg R) X.xe s1) X.xe s
end
section
variable {X : Cx} {e : Expr} {es : List Expr} {kws : List Keyword} {st : Stmt} {ss : List Stmt} {tg iter : Expr} {σ : L2.St} {H : Hp}
theorem we : PE X e (WE X e) := ⟨fun pins s σ H Q I h => h pins s I⟩
theorem wt : PT X e (WT X e) := ⟨fun pins s σ H Q I h => h pins s I⟩
theorem ww : PW X e (WW X e) := ⟨fun wh pins s σ H Q I h => h wh pins s I⟩
theorem wa : PA X es (WA X es) := ⟨fun pos pins s σ H Q I h => h pos pins s I⟩
theorem wk : PK X kws (WK X kws) := ⟨fun pos pins s σ H Q I h => h pos pins s I⟩
theorem ws : PS X st (WS X st) := ⟨fun pins s σ H D I h => h pins s I⟩
theorem wb : PSs X ss (WB X ss) := ⟨fun pins s σ H D I h => h pins s I⟩
theorem wg : PG X tg (WG X tg) := ⟨fun pins s σ H v u Q I r h => h pins s u I r⟩
theorem wgs : PGs X es (WGs X es) := ⟨fun pins s σ H vs us Q I r h => h pins s us I r⟩
theorem wi : PI X tg iter (WI X tg iter) := ⟨fun pins s σ H R I h => h pins s I⟩
theorem WE.of {t : TE} {Q : VK} (h : PE X e t) (k : t σ H Q) : WE X e σ H Q := fun pins s I => h.run pins s σ H Q I k
theorem WT.of {t : TT} {Q : Bool → Hp → Prop} (h : PT X e t) (k : t σ H Q) : WT X e σ H Q := fun pins s I => h.run pins s σ H Q I k
theorem WW.of {t : TT} {Q : Bool → Hp → Prop} (h : PW X e t) (k : t σ H Q) : WW X e σ H Q := fun wh pins s I => h.run wh pins s σ H Q I k
theorem WA.of {t : TA} {Q : List V → Hp → Prop} (h : PA X es t) (k : t σ H Q) : WA X es σ H Q := fun pos pins s I => h.run pos pins s σ H Q I k
theorem WK.of {t : TA} {Q : List V → Hp → Prop} (h : PK X kws t) (k : t σ H Q) : WK X kws σ H Q := fun pos pins s I => h.run pos pins s σ H Q I k
theorem WS.of {t : TS} {D : Ends} (h : PS X st t) (k : t D σ H) : WS X st D σ H := fun pins s I => h.run pins s σ H D I k
theorem WB.of {t : TS} {D : Ends} (h : PSs X ss t) (k : t D σ H) : WB X ss D σ H := fun pins s I => h.run pins s σ H D I k
theorem WG.of {t : TG} {v : V} {Q : L2.St → Hp → Prop} (h : PG X tg t) (k : t v σ H Q) : WG X tg v σ H Q := fun pins s u I r => h.run pins s σ H v u Q I r k
theorem WGs.of {t : TGs} {vs : List V} {Q : L2.St → Hp → Prop} (h : PGs X es t) (k : t vs σ H Q) : WGs X es vs σ H Q := fun pins s us I r => h.run pins s σ H vs us Q I r k
theorem WI.of {t : TI} {R : It → Hp → Prop} (h : PI X tg iter t) (k : t σ H R) : WI X tg iter σ H R := fun pins s I => h.run pins s σ H R I k
theorem WB.mono {D D' : Ends} (h : WB X ss D σ H) (h1 : ∀ σ H, D.nx σ H → D'.nx σ H) (h2 : ∀ v H, D.rt v H → D'.rt v H) (h3 : ∀ σ H, D.bk σ H → D'.bk σ H) (h4 : ∀ σ H, D.ct σ H → D'.ct σ H) : WB X ss D' σ H := fun pins s I =>
  thn (h pins s I) fun f s' q => by
    cases f with
    | next => obtain ⟨a, b, c, d⟩ := q; exact ⟨a, b, c, h1 _ _ d⟩
    | brk => obtain ⟨a, b, c, d⟩ := q; exact ⟨a, b, c, h3 _ _ d⟩
    | cont => obtain ⟨a, b, c, d⟩ := q; exact ⟨a, b, c, h4 _ _ d⟩
    | ret u => obtain ⟨a, b, c, d, r, z⟩ := q; exact ⟨a, b, c, d, r, h2 _ _ z⟩
end

/-! ### judgements -/
/-- e has a value in R, by the slots G and the owned L, and leaves L' -/
def EJ (X : Cx) (G : Gam) (L : List Atm) (e : Expr) (R : MP) (L' : List Atm) : Prop :=
  ∀ (Fr : List Atm) (σ : L2.St) (F H : Hp) (Q : VK), Env G σ F → Sep F (L ++ Fr) H → (∀ v F' H', Ext F F' → Sep F' (L' ++ Fr) H' → R.p v F' → Q v H') → WE X e σ H Q
/-- the same, one of several ends -/
def EX {κ : Type} (X : Cx) (G : Gam) (L : List Atm) (e : Expr) (R : κ → MP) (L' : κ → List Atm) : Prop :=
  ∀ (Fr : List Atm) (σ : L2.St) (F H : Hp) (Q : VK), Env G σ F → Sep F (L ++ Fr) H → (∀ y v F' H', Ext F F' → Sep F' (L' y ++ Fr) H' → (R y).p v F' → Q v H') → WE X e σ H Q
def TJ (X : Cx) (G : Gam) (L : List Atm) (e : Expr) (b : Bool) (L' : List Atm) : Prop :=
  ∀ (Fr : List Atm) (σ : L2.St) (F H : Hp) (Q : Bool → Hp → Prop), Env G σ F → Sep F (L ++ Fr) H → (∀ F' H', Ext F F' → Sep F' (L' ++ Fr) H' → Q b H') → WT X e σ H Q
/-- within and, or -/
def BJ (X : Cx) (G : Gam) (L : List Atm) (e : Expr) (b : Bool) (L' : List Atm) : Prop :=
  ∀ (Fr : List Atm) (σ : L2.St) (F H : Hp) (Q : Bool → Hp → Prop), Env G σ F → Sep F (L ++ Fr) H → (∀ F' H', Ext F F' → Sep F' (L' ++ Fr) H' → Q b H') → WW X e σ H Q
def AJ (X : Cx) (G : Gam) (L : List Atm) (es : List Expr) (Rs : List MP) (L' : List Atm) : Prop :=
  ∀ (Fr : List Atm) (σ : L2.St) (F H : Hp) (Q : List V → Hp → Prop), Env G σ F → Sep F (L ++ Fr) H → (∀ vs F' H', Ext F F' → Sep F' (L' ++ Fr) H' → All Rs vs F' → Q vs H') → WA X es σ H Q
def KJ (X : Cx) (G : Gam) (L : List Atm) (kws : List Keyword) (Rs : List MP) (L' : List Atm) : Prop :=
  ∀ (Fr : List Atm) (σ : L2.St) (F H : Hp) (Q : List V → Hp → Prop), Env G σ F → Sep F (L ++ Fr) H → (∀ vs F' H', Ext F F' → Sep F' (L' ++ Fr) H' → All Rs vs F' → Q vs H') → WK X kws σ H Q
def GJ (X : Cx) (ws : List Nat) (G : Gam) (tg : Expr) (R : MP) (G' : Gam) : Prop :=
  ∀ (v : V) (σ : L2.St) (F H : Hp) (Q : L2.St → Hp → Prop), R.p v F → Env G σ F → Ext F H → (∀ σ', Env G' σ' F → wipe σ' ws = wipe σ ws → Q σ' H) → WG X tg v σ H Q
def GJs (X : Cx) (ws : List Nat) (G : Gam) (ts : List Expr) (Rs : List MP) (G' : Gam) : Prop :=
  ∀ (vs : List V) (σ : L2.St) (F H : Hp) (Q : L2.St → Hp → Prop), All Rs vs F → Env G σ F → Ext F H → (∀ σ', Env G' σ' F → wipe σ' ws = wipe σ ws → Q σ' H) → WGs X ts vs σ H Q
/-- n items -/
def ItOk (n : Nat) (item : Nat → MP) (F0 : Hp) (J : It) : Prop :=
  ∀ i F H, Ext F0 F → Ext F H → (i < n → J.go i H) ∧ (i = n → J.stop i H) ∧ ∀ x H3, i < n → J.yld i H x H3 → ∃ F3, Ext F F3 ∧ (∀ L, Sep F L H → Sep F3 L H3) ∧ (item i).p x F3
def IJ (X : Cx) (G : Gam) (L : List Atm) (tg iter : Expr) (n : Nat) (item : Nat → MP) (L' : List Atm) : Prop :=
  ∀ (Fr : List Atm) (σ : L2.St) (F H : Hp) (R : It → Hp → Prop), Env G σ F → Sep F (L ++ Fr) H → (∀ J F' H', Ext F F' → Sep F' (L' ++ Fr) H' → ItOk n item F' J → R J H') → WI X tg iter σ H R
/-- behind a block: the slots, the owned, over the def's own start -/
def At (F0 : Hp) (Fr : List Atm) (G : Gam) (L : List Atm) : L2.St → Hp → Prop := fun σ H => ∃ F, Ext F0 F ∧ Env G σ F ∧ Sep F (L ++ Fr) H
/-- a loop that goes through: P is what is known of the turns done -/
abbrev AtP (P : Prop) (F0 : Hp) (Fr : List Atm) (G : Gam) (L : List Atm) : L2.St → Hp → Prop := fun σ H => P ∧ At F0 Fr G L σ H
def Rt {κ : Type} (F0 : Hp) (Fr : List Atm) (R : κ → MP) (L : κ → List Atm) : VK := fun v H => ∃ y F, Ext F0 F ∧ Sep F (L y ++ Fr) H ∧ (R y).p v F
def SJ (X : Cx) (F0 : Hp) (Fr : List Atm) (G : Gam) (L : List Atm) (ss : List Stmt) (D : Ends) : Prop :=
  ∀ (σ : L2.St) (F H : Hp), Ext F0 F → Env G σ F → Sep F (L ++ Fr) H → WB X ss D σ H

section
variable {X : Cx} {G G1 G2 : Gam} {L L1 L2' L3 : List Atm} {a b c e : Expr} {es : List Expr} {R Ra Rb Rc : MP} {Rs : List MP} {pos pos' : Pos} {i j : Int} {F0 : Hp} {Fr : List Atm} {D : Ends} {ss rest : List Stmt}
/-! ### expressions -/
theorem EJ.ex {κ : Type} {R : κ → MP} {L' : κ → List Atm} (y : κ) (h : EJ X G L e (R y) (L' y)) : EX X G L e R L' := fun Fr σ F H Q hE hS k => h Fr σ F H Q hE hS fun v F' H' => k y v F' H'
theorem EX.ej (h : EX (κ := Unit) X G L e (fun _ => R) (fun _ => L1)) : EJ X G L e R L1 := fun Fr σ F H Q hE hS k => h Fr σ F H Q hE hS fun _ => k
theorem EJ.to (h : EJ X G L e R L1) (k : ∀ v F, R.p v F → Ra.p v F) : EJ X G L e Ra L1 := fun Fr σ F H Q hE hS q => h Fr σ F H Q hE hS fun v F' H' x s r => q v F' H' x s (k v F' r)
theorem EJ.eq (h : EJ X G L e R L1) (k : R = Ra) : EJ X G L e Ra L1 := k ▸ h
theorem EJ.own (h : EJ X G L e R L1) (k : L1 = L2') : EJ X G L e R L2' := k ▸ h
theorem ej_var (i : Nat) {x : Str} (hG : G[i]? = some (some R) := by rfl) (hN : X.N[i]? = some x := by rfl) (hv : Vis X.env.scope x := by first | exact Or.inl rfl | exact Or.inr (Or.inl rfl) | exact Or.inr (Or.inr rfl)) (hd : (x == ("__debug__" : Str)) = false := by decide)
    (hcd : (x == ("__classdict__" : Str)) = false := by decide) : EJ X G L (.Name x pos) R L := fun Fr σ F H Q hE hS k =>
  WE.of (pe_var hN hv hd hcd) (let ⟨v, a, b⟩ := hE.get hG; ⟨v, a, k v F H (Ext.refl F) hS b⟩)
theorem ej_v {t : V} (h : PE X e (tC t)) : EJ X G L e (IsV t) L := fun Fr σ F H Q hE hS k => WE.of h (k t F H (Ext.refl F) hS rfl)
theorem ej_int {j : Nat} : EJ X G L (.Constant (.int i) j pos) (IsInt i) L := ej_v pe_int
theorem ej_bl {t : Bool} {j : Nat} : EJ X G L (.Constant (.bool t) j pos) (IsBool t) L := ej_v pe_bl
theorem ej_non {j : Nat} : EJ X G L (.Constant .none j pos) IsNone L := ej_v pe_non
theorem ej_str {t : Str} {j : Nat} : EJ X G L (.Constant (.str t) j pos) (IsStr t) L := ej_v pe_str
/-- the module's name x -/
theorem ej_glob {x : Str} {v : V} {u : Value} (hm : X.mg x = some u) (r : RelV v u) (hg : Gl X x := by rfl) (hd : (x == ("__debug__" : Str)) = false := by decide) : EJ X G L (.Name x pos) (IsV v) L := ej_v (pe_glob hg hm r hd)

/-- an operator on values -/
def OpJ (r : R2) (Ra Rb : MP) (L : List Atm) (R : MP) (L' : List Atm) : Prop :=
  ∀ (Fr : List Atm) (v u : V) (F H : Hp) (Q : VK), Ra.p v F → Rb.p u F → Sep F (L ++ Fr) H → (∀ w F' H', Ext F F' → Sep F' (L' ++ Fr) H' → R.p w F' → Q w H') → r v u H Q
theorem oj_I {g : Int → Int → V} {C : Int → Int → Prop} (hc : C i j) : OpJ (rI C g) (IsInt i) (IsInt j) L (IsV (g i j)) L := fun Fr v u F H Q h1 h2 hS k => ⟨i, j, h1, h2, hc, k _ F H (Ext.refl F) hS rfl⟩
theorem oj_I0 {g : Int → Int → V} : OpJ (rI0 g) (IsInt i) (IsInt j) L (IsV (g i j)) L := fun Fr v u F H Q h1 h2 hS k => ⟨i, j, h1, h2, k _ F H (Ext.refl F) hS rfl⟩
theorem ej_op {op : Operator} {r : R2} (ho : OpR X (binaryOp op) r) (ha : EJ X G L a Ra L1) (hb : EJ X G L1 b Rb L2') (hr : OpJ r Ra Rb L2' R L3) : EJ X G L (.BinOp a op b pos) R L3 := fun Fr σ F H Q hE hS k =>
  WE.of (pe_op ho we we) (ha Fr σ F H _ hE hS fun v F1 H1 x1 s1 r1 => hb Fr σ F1 H1 _ (hE.mono x1) s1 fun u F2 H2 x2 s2 r2 => hr Fr v u F2 H2 _ (Ra.mono x2 r1) r2 s2 fun w F3 H3 x3 s3 r3 => k w F3 H3 ((x1.trans x2).trans x3) s3 r3)
theorem ej_add (ha : EJ X G L a (IsInt i) L1) (hb : EJ X G L1 b (IsInt j) L2') : EJ X G L (.BinOp a .Add b pos) (IsInt (i + j)) L2' := ej_op op_add ha hb oj_I0
theorem ej_sub (ha : EJ X G L a (IsInt i) L1) (hb : EJ X G L1 b (IsInt j) L2') : EJ X G L (.BinOp a .Sub b pos) (IsInt (i - j)) L2' := ej_op op_sub ha hb oj_I0
theorem ej_mul (ha : EJ X G L a (IsInt i) L1) (hb : EJ X G L1 b (IsInt j) L2') (hc : CMul i j) : EJ X G L (.BinOp a .Mult b pos) (IsInt (i * j)) L2' := ej_op op_mul ha hb (oj_I hc)
theorem ej_mod (ha : EJ X G L a (IsInt i) L1) (hb : EJ X G L1 b (IsInt j) L2') (hc : 0 < j) : EJ X G L (.BinOp a .Mod b pos) (IsInt (i % j)) L2' := ej_op op_mod ha hb (oj_I hc)
theorem ej_fdiv (ha : EJ X G L a (IsInt i) L1) (hb : EJ X G L1 b (IsInt j) L2') (hc : CDivW i j) : EJ X G L (.BinOp a .FloorDiv b pos) (IsInt (i / j)) L2' := ej_op op_fdivW ha hb (oj_I hc)
theorem ej_pow (ha : EJ X G L a (IsInt i) L1) (hb : EJ X G L1 b (IsInt j) L2') (hc : CPow i j) : EJ X G L (.BinOp a .Pow b pos) (IsInt (i ^ j.toNat)) L2' := ej_op op_pow ha hb (oj_I hc)
theorem ej_neg (ha : EJ X G L a (IsInt i) L1) : EJ X G L (.UnaryOp .USub a pos) (IsInt (-i)) L1 := fun Fr σ F H Q hE hS k =>
  WE.of (pe_un un_neg we) (ha Fr σ F H _ hE hS fun v F1 H1 x1 s1 r1 => ⟨i, r1, k _ F1 H1 x1 s1 rfl⟩)

/-! ### comparisons -/
theorem ej_cmp {op : CmpOp} {r : R2} {t : Bool} (ho : OpR X (compareOp op) r) (ha : EJ X G L a Ra L1) (hb : EJ X G L1 b Rb L2') (hr : OpJ r Ra Rb L2' (IsBool t) L3) (hm : behindInMarks op b = false) : EJ X G L (.Compare a [op] [b] pos) (IsBool t) L3 := fun Fr σ F H Q hE hS k =>
  WE.of (pe_cmpR ho we we hm) (ha Fr σ F H _ hE hS fun v F1 H1 x1 s1 r1 => hb Fr σ F1 H1 _ (hE.mono x1) s1 fun u F2 H2 x2 s2 r2 => hr Fr v u F2 H2 _ (Ra.mono x2 r1) r2 s2 fun w F3 H3 x3 s3 r3 => k w F3 H3 ((x1.trans x2).trans x3) s3 r3)
theorem tj_cmp {op : CmpOp} {r : R2} {t : Bool} (ho : OpR X (compareOp op) r) (ha : EJ X G L a Ra L1) (hb : EJ X G L1 b Rb L2') (hr : OpJ r Ra Rb L2' (IsBool t) L3) (hm : behindInMarks op b = false) : TJ X G L (.Compare a [op] [b] pos) t L3 := fun Fr σ F H Q hE hS k =>
  WT.of (pt_cmpR ho we we hm) (ha Fr σ F H _ hE hS fun v F1 H1 x1 s1 r1 => hb Fr σ F1 H1 _ (hE.mono x1) s1 fun u F2 H2 x2 s2 r2 => hr Fr v u F2 H2 _ (Ra.mono x2 r1) r2 s2 fun w F3 H3 x3 s3 r3 => ⟨t, r3, k F3 H3 ((x1.trans x2).trans x3) s3⟩)
theorem oj_lt : OpJ (rI0 fun i j => .bl (decide (i < j))) (IsInt i) (IsInt j) L (IsBool (decide (i < j))) L := oj_I0
theorem oj_le : OpJ (rI0 fun i j => .bl (decide (i ≤ j))) (IsInt i) (IsInt j) L (IsBool (decide (i ≤ j))) L := oj_I0
theorem oj_gt : OpJ (rI0 fun i j => .bl (decide (j < i))) (IsInt i) (IsInt j) L (IsBool (decide (j < i))) L := oj_I0
theorem oj_ge : OpJ (rI0 fun i j => .bl (decide (j ≤ i))) (IsInt i) (IsInt j) L (IsBool (decide (j ≤ i))) L := oj_I0
theorem oj_eq {x y : V} (h : scal x y = true) : OpJ rEq (IsV x) (IsV y) L (IsBool (decide (x = y))) L := fun Fr v u F H Q h1 h2 hS k => by
  have e1 : v = x := h1
  have e2 : u = y := h2
  subst e1 e2
  exact ⟨h, k _ F H (Ext.refl F) hS rfl⟩
theorem oj_ne {x y : V} (h : scal x y = true) : OpJ rNe (IsV x) (IsV y) L (IsBool (!decide (x = y))) L := fun Fr v u F H Q h1 h2 hS k => by
  have e1 : v = x := h1
  have e2 : u = y := h2
  subst e1 e2
  exact ⟨h, k _ F H (Ext.refl F) hS rfl⟩
theorem dec_int {i j : Int} : decide (V.int i = V.int j) = decide (i = j) := decide_eq_decide.mpr ⟨fun h => by cases h; rfl, fun h => by rw [h]⟩
theorem dec_str {i j : Str} : decide (V.str i = V.str j) = decide (i = j) := decide_eq_decide.mpr ⟨fun h => by cases h; rfl, fun h => by rw [h]⟩
theorem oj_eqI : OpJ rEq (IsInt i) (IsInt j) L (IsBool (decide (i = j))) L := dec_int ▸ oj_eq (x := .int i) (y := .int j) rfl
theorem oj_neI : OpJ rNe (IsInt i) (IsInt j) L (IsBool (!decide (i = j))) L := dec_int ▸ oj_ne (x := .int i) (y := .int j) rfl
theorem oj_eqS {s t : Str} : OpJ rEq (IsStr s) (IsStr t) L (IsBool (decide (s = t))) L := dec_str ▸ oj_eq (x := .str s) (y := .str t) rfl
theorem oj_neS {s t : Str} : OpJ rNe (IsStr s) (IsStr t) L (IsBool (!decide (s = t))) L := dec_str ▸ oj_ne (x := .str s) (y := .str t) rfl
/-- comparisons of ints, of texts, as tests -/
theorem tj_lt (ha : EJ X G L a (IsInt i) L1) (hb : EJ X G L1 b (IsInt j) L2') : TJ X G L (.Compare a [.Lt] [b] pos) (decide (i < j)) L2' := tj_cmp op_lt ha hb oj_lt (nomark _)
theorem tj_le (ha : EJ X G L a (IsInt i) L1) (hb : EJ X G L1 b (IsInt j) L2') : TJ X G L (.Compare a [.LtE] [b] pos) (decide (i ≤ j)) L2' := tj_cmp op_le ha hb oj_le (nomark _)
theorem tj_gt (ha : EJ X G L a (IsInt i) L1) (hb : EJ X G L1 b (IsInt j) L2') : TJ X G L (.Compare a [.Gt] [b] pos) (decide (j < i)) L2' := tj_cmp op_gt ha hb oj_gt (nomark _)
theorem tj_ge (ha : EJ X G L a (IsInt i) L1) (hb : EJ X G L1 b (IsInt j) L2') : TJ X G L (.Compare a [.GtE] [b] pos) (decide (j ≤ i)) L2' := tj_cmp op_ge ha hb oj_ge (nomark _)
theorem tj_eqI (ha : EJ X G L a (IsInt i) L1) (hb : EJ X G L1 b (IsInt j) L2') : TJ X G L (.Compare a [.Eq] [b] pos) (decide (i = j)) L2' := tj_cmp op_eq ha hb oj_eqI (nomark _)
theorem tj_neI (ha : EJ X G L a (IsInt i) L1) (hb : EJ X G L1 b (IsInt j) L2') : TJ X G L (.Compare a [.NotEq] [b] pos) (!decide (i = j)) L2' := tj_cmp op_ne ha hb oj_neI (nomark _)
theorem tj_eqS {s t : Str} (ha : EJ X G L a (IsStr s) L1) (hb : EJ X G L1 b (IsStr t) L2') : TJ X G L (.Compare a [.Eq] [b] pos) (decide (s = t)) L2' := tj_cmp op_eq ha hb oj_eqS (nomark _)
theorem tj_neS {s t : Str} (ha : EJ X G L a (IsStr s) L1) (hb : EJ X G L1 b (IsStr t) L2') : TJ X G L (.Compare a [.NotEq] [b] pos) (!decide (s = t)) L2' := tj_cmp op_ne ha hb oj_neS (nomark _)
/-- is None, is not None: of a value that is known to be None or to be none -/
def notNon (R : MP) : Prop := ∀ v F, R.p v F → v ≠ .non
theorem tj_isN {j0 : Nat} {p0 : Pos} (ha : EJ X G L a IsNone L1) : TJ X G L (.Compare a [.Is] [.Constant .none j0 p0] pos) true L1 := fun Fr σ F H Q hE hS k =>
  WT.of (pt_cmp (pc_isN we)) (ha Fr σ F H _ hE hS fun v F1 H1 x1 s1 r1 => by
    have e : v = .non := r1
    subst e
    exact ⟨true, rfl, k F1 H1 x1 s1⟩)
theorem tj_isN0 {j0 : Nat} {p0 : Pos} (ha : EJ X G L a R L1) (hn : notNon R) : TJ X G L (.Compare a [.Is] [.Constant .none j0 p0] pos) false L1 := fun Fr σ F H Q hE hS k =>
  WT.of (pt_cmp (pc_isN we)) (ha Fr σ F H _ hE hS fun v F1 H1 x1 s1 r1 => ⟨false, by rw [decide_eq_false (hn v F1 r1)], k F1 H1 x1 s1⟩)
theorem tj_notN0 {j0 : Nat} {p0 : Pos} (ha : EJ X G L a IsNone L1) : TJ X G L (.Compare a [.IsNot] [.Constant .none j0 p0] pos) false L1 := fun Fr σ F H Q hE hS k =>
  WT.of (pt_cmp (pc_notN we)) (ha Fr σ F H _ hE hS fun v F1 H1 x1 s1 r1 => by
    have e : v = .non := r1
    subst e
    exact ⟨false, rfl, k F1 H1 x1 s1⟩)
theorem tj_notN {j0 : Nat} {p0 : Pos} (ha : EJ X G L a R L1) (hn : notNon R) : TJ X G L (.Compare a [.IsNot] [.Constant .none j0 p0] pos) true L1 := fun Fr σ F H Q hE hS k =>
  WT.of (pt_cmp (pc_notN we)) (ha Fr σ F H _ hE hS fun v F1 H1 x1 s1 r1 => ⟨true, by rw [decide_eq_false (hn v F1 r1)]; rfl, k F1 H1 x1 s1⟩)
theorem nn_v {v : V} (h : v ≠ .non := by intro z; cases z) : notNon (IsV v) := fun u F e => by
  have e' : u = v := e
  rw [e']; exact h
theorem nn_tup {K : PySem.W.Frag} : notNon (IsTup K Rs) := fun u F ⟨a, vs, h, _⟩ z => by rw [h] at z; cases z
theorem nn_lst {K : PySem.W.Frag} : notNon (IsLst K Rs) := fun u F ⟨a, vs, h, _⟩ z => by rw [h] at z; cases z
theorem nn_ins {C : Addr} {ns : List Str} : notNon (IsIns C ns Rs) := fun u F ⟨a, dx, vs, h, _⟩ z => by rw [h] at z; cases z
theorem TJ.eq {t u : Bool} (h : TJ X G L e t L1) (k : t = u) : TJ X G L e u L1 := k ▸ h
/-- a test that is a value -/
theorem tj_val {t : Bool} (h : EJ X G L e (IsBool t) L1) (he : ∀ whole, isTrue e X.env whole = (do let v ← whole; standAt e.pos; holding [v] (truthy v)) := by intro _; rfl) : TJ X G L e t L1 := fun Fr σ F H Q hE hS k =>
  WT.of (pt_val we he) (h Fr σ F H _ hE hS fun v F1 H1 x1 s1 r1 => ⟨t, r1, k F1 H1 x1 s1⟩)
theorem tj_not {t : Bool} (h : TJ X G L e t L1) : TJ X G L (.UnaryOp .Not e pos) (!t) L1 := fun Fr σ F H Q hE hS k => WT.of (pt_not wt) (h Fr σ F H _ hE hS fun F1 H1 x1 s1 => k F1 H1 x1 s1)
theorem tj_b {t : Bool} (h : BJ X G L e t L1) : TJ X G L e t L1 := fun Fr σ F H Q hE hS k => WT.of ww.pt (h Fr σ F H _ hE hS fun F1 H1 x1 s1 => k F1 H1 x1 s1)
theorem bj_and1 {t : Bool} (h : TJ X G L a t L1) : BJ X G L (.BoolOp .And [a] pos) t L1 := fun Fr σ F H Q hE hS k => WW.of (pw_and1 wt) (h Fr σ F H _ hE hS fun F1 H1 x1 s1 => k F1 H1 x1 s1)
theorem bj_or1 {t : Bool} (h : TJ X G L a t L1) : BJ X G L (.BoolOp .Or [a] pos) t L1 := fun Fr σ F H Q hE hS k => WW.of (pw_or1 wt) (h Fr σ F H _ hE hS fun F1 H1 x1 s1 => k F1 H1 x1 s1)
theorem bj_and {t u : Bool} (h : TJ X G L a t L) (h2 : t = true → BJ X G L (.BoolOp .And (b :: es) pos) u L) : BJ X G L (.BoolOp .And (a :: b :: es) pos) (t && u) L := fun Fr σ F H Q hE hS k =>
  WW.of (pw_and wt ww) (h Fr σ F H _ hE hS fun F1 H1 x1 s1 => by
    cases t with
    | true =>
      show WW X _ σ H1 Q
      exact h2 rfl Fr σ F1 H1 _ (hE.mono x1) s1 fun F2 H2 x2 s2 => k F2 H2 (x1.trans x2) s2
    | false => exact k F1 H1 x1 s1)
theorem bj_or {t u : Bool} (h : TJ X G L a t L) (h2 : t = false → BJ X G L (.BoolOp .Or (b :: es) pos) u L) : BJ X G L (.BoolOp .Or (a :: b :: es) pos) (t || u) L := fun Fr σ F H Q hE hS k =>
  WW.of (pw_or wt ww) (h Fr σ F H _ hE hS fun F1 H1 x1 s1 => by
    cases t with
    | true => exact k F1 H1 x1 s1
    | false =>
      show WW X _ σ H1 Q
      exact h2 rfl Fr σ F1 H1 _ (hE.mono x1) s1 fun F2 H2 x2 s2 => k F2 H2 (x1.trans x2) s2)
/-- and, or, not as values -/
theorem ej_and1 {op : BoolOp} (h : EJ X G L a R L1) : EJ X G L (.BoolOp op [a] pos) R L1 := fun Fr σ F H Q hE hS k => WE.of (pe_one we) (h Fr σ F H _ hE hS k)
theorem ej_and {t u : Bool} (h : EJ X G L a (IsBool t) L) (h2 : t = true → EJ X G L (.BoolOp .And (b :: es) pos) (IsBool u) L) : EJ X G L (.BoolOp .And (a :: b :: es) pos) (IsBool (t && u)) L := fun Fr σ F H Q hE hS k =>
  WE.of (pe_and we we) (h Fr σ F H _ hE hS fun v F1 H1 x1 s1 r1 => ⟨t, r1, by
    cases t with
    | true =>
      show WE X _ σ H1 Q
      exact h2 rfl Fr σ F1 H1 _ (hE.mono x1) s1 fun v F2 H2 x2 s2 r2 => k v F2 H2 (x1.trans x2) s2 r2
    | false => exact k _ F1 H1 x1 s1 rfl⟩)
theorem ej_or {t u : Bool} (h : EJ X G L a (IsBool t) L) (h2 : t = false → EJ X G L (.BoolOp .Or (b :: es) pos) (IsBool u) L) : EJ X G L (.BoolOp .Or (a :: b :: es) pos) (IsBool (t || u)) L := fun Fr σ F H Q hE hS k =>
  WE.of (pe_or we we) (h Fr σ F H _ hE hS fun v F1 H1 x1 s1 r1 => ⟨t, r1, by
    cases t with
    | true => exact k _ F1 H1 x1 s1 rfl
    | false =>
      show WE X _ σ H1 Q
      exact h2 rfl Fr σ F1 H1 _ (hE.mono x1) s1 fun v F2 H2 x2 s2 r2 => k v F2 H2 (x1.trans x2) s2 r2⟩)
theorem ej_not {t : Bool} (h : EJ X G L a (IsBool t) L1) : EJ X G L (.UnaryOp .Not a pos) (IsBool (!t)) L1 := fun Fr σ F H Q hE hS k => WE.of (pe_not we) (h Fr σ F H _ hE hS fun v F1 H1 x1 s1 r1 => ⟨t, r1, k _ F1 H1 x1 s1 rfl⟩)
theorem ej_if {t : Bool} (h : TJ X G L c t L1) (h1 : t = true → EJ X G L1 a R L2') (h2 : t = false → EJ X G L1 b R L2') : EJ X G L (.IfExp c a b pos) R L2' := fun Fr σ F H Q hE hS k =>
  WE.of (pe_ifExp wt we we) (h Fr σ F H _ hE hS fun F1 H1 x1 s1 => by
    cases t with
    | true =>
      show WE X _ σ H1 Q
      exact h1 rfl Fr σ F1 H1 _ (hE.mono x1) s1 fun v F2 H2 x2 s2 r2 => k v F2 H2 (x1.trans x2) s2 r2
    | false =>
      show WE X _ σ H1 Q
      exact h2 rfl Fr σ F1 H1 _ (hE.mono x1) s1 fun v F2 H2 x2 s2 r2 => k v F2 H2 (x1.trans x2) s2 r2)

/-! ### arguments, displays -/
theorem aj_nil : AJ X G L [] [] L := fun Fr σ F H Q hE hS k => WA.of pa_nil (k [] F H (Ext.refl F) hS trivial)
theorem aj_cons (h : EJ X G L e R L1) (h2 : AJ X G L1 es Rs L2') (hs : starEach (e :: es) X.env = (false, eval e X.env) :: starEach es X.env := by rfl) : AJ X G L (e :: es) (R :: Rs) L2' := fun Fr σ F H Q hE hS k =>
  WA.of (pa_cons we wa hs) (h Fr σ F H _ hE hS fun v F1 H1 x1 s1 r1 => h2 Fr σ F1 H1 _ (hE.mono x1) s1 fun vs F2 H2 x2 s2 r2 => k (v :: vs) F2 H2 (x1.trans x2) s2 ⟨R.mono x2 r1, r2⟩)
theorem kj_nil : KJ X G L [] [] L := fun Fr σ F H Q hE hS k => WK.of pk_nil (k [] F H (Ext.refl F) hS trivial)
theorem kj_cons {nm : Option Str} {kpos : Pos} {kws : List Keyword} (h : EJ X G L e R L1) (h2 : KJ X G L1 kws Rs L2') : KJ X G L (⟨nm, e, kpos⟩ :: kws) (R :: Rs) L2' := fun Fr σ F H Q hE hS k =>
  WK.of (pk_cons we wk) (h Fr σ F H _ hE hS fun v F1 H1 x1 s1 r1 => h2 Fr σ F1 H1 _ (hE.mono x1) s1 fun vs F2 H2 x2 s2 r2 => k (v :: vs) F2 H2 (x1.trans x2) s2 ⟨R.mono x2 r1, r2⟩)
theorem put_tup {q : Addr} {F H : Hp} {vs : List V} (s : Sep F L H) (h : H q = none) (r : All Rs vs F) : Ext F (upd F q (.tup vs)) ∧ Sep (upd F q (.tup vs)) L (upd H q (.tup vs)) ∧ (IsTup X.K Rs).p (.ref q) (upd F q (.tup vs)) := by
  obtain ⟨e, s'⟩ := s.put (o := .tup vs) h
  exact ⟨e, s', q, vs, rfl, Or.inl (Or.inl upd_same), r.mono e⟩
theorem put_lst {q : Addr} {F H : Hp} {vs : List V} (s : Sep F L H) (h : H q = none) (r : All Rs vs F) : Ext F (upd F q (.lst vs)) ∧ Sep (upd F q (.lst vs)) L (upd H q (.lst vs)) ∧ (IsLst X.K Rs).p (.ref q) (upd F q (.lst vs)) := by
  obtain ⟨e, s'⟩ := s.put (o := .lst vs) h
  exact ⟨e, s', q, vs, rfl, Or.inl (Or.inl upd_same), r.mono e⟩
theorem own_lst {q : Addr} {F H : Hp} {vs : List V} (s : Sep F L H) (h : H q = none) (r : All Rs vs F) : Sep F (AtL q Rs :: L) (upd H q (.lst vs)) := s.own h ⟨vs, rfl, r⟩
theorem small_line {n : Nat} (h : n ≤ 100000) : n ≤ sizeLine := Nat.le_trans h (by rw [sizeLine_eq]; decide)
theorem small_lt {n : Nat} (h : n < 100000) : n < sizeLine := Nat.lt_of_lt_of_le h (by rw [sizeLine_eq]; decide)
theorem ej_tup {x1} (h : AJ X G L es Rs L1) (hl : Rs.length ≤ 100000 := by first | decide | simp) : EJ X G L (.Tuple es x1 pos) (IsTup X.K Rs) L1 := fun Fr σ F H Q hE hS k =>
  WE.of (pe_tup wa) (h Fr σ F H _ hE hS fun vs F1 H1 x1 s1 r1 => ⟨by rw [← r1.len]; exact small_line hl, fun p hp => let ⟨a, b, c⟩ := put_tup s1 hp r1; k _ _ _ (x1.trans a) b c⟩)
/-- a list that will not change -/
theorem ej_lst (h : AJ X G L es Rs L1) (hl : Rs.length ≤ 100000 := by first | decide | simp) : EJ X G L (.List es pos) (IsLst X.K Rs) L1 := fun Fr σ F H Q hE hS k =>
  WE.of (pe_lst wa) (h Fr σ F H _ hE hS fun vs F1 H1 x1 s1 r1 => ⟨by rw [← r1.len]; exact small_line hl, fun p hp => let ⟨a, b, c⟩ := put_lst s1 hp r1; k _ _ _ (x1.trans a) b c⟩)
/-- a list that is owned -/
theorem ex_lst (h : AJ X G L es Rs L1) (hl : Rs.length ≤ 100000 := by first | decide | simp) : EX X G L (.List es pos) (fun q => IsAddr q) (fun q => AtL q Rs :: L1) := fun Fr σ F H Q hE hS k =>
  WE.of (pe_lst wa) (h Fr σ F H _ hE hS fun vs F1 H1 x1 s1 r1 => ⟨by rw [← r1.len]; exact small_line hl, fun p hp => k p _ F1 _ x1 (own_lst s1 hp r1) rfl⟩)

/-! ### statements -/
theorem sj_nil (h : ∀ (σ : L2.St) (H : Hp), At F0 Fr G L σ H → D.nx σ H) : SJ X F0 Fr G L [] D := fun σ F H x hE hS => WB.of pss_nil (h σ H ⟨F, x, hE, hS⟩)
/-- the end of a branch: what follows -/
abbrev thenDo (X : Cx) (rest : List Stmt) (D : Ends) : Ends := { D with nx := WB X rest D }
theorem sj_end (h : SJ X F0 Fr G L rest D) : SJ X F0 Fr G L [] (thenDo X rest D) := sj_nil fun σ H ⟨F, x, hE, hS⟩ => h σ F H x hE hS
/-- a loop's turn ends -/
theorem sj_turn {P : Prop} {bk : L2.St → Hp → Prop} {rt : VK} {ct : L2.St → Hp → Prop} (hp : P) (hs : Sub G G1 := by repeat (first | exact trivial | refine ⟨fun _ _ h => h, ?_⟩)) (hl : L = L1 := by rfl) : SJ X F0 Fr G L [] ⟨AtP P F0 Fr G1 L1, rt, bk, ct⟩ := sj_nil fun σ H ⟨F, x, hE, hS⟩ => ⟨hp, F, x, hE.sub hs, hl ▸ hS⟩
theorem sj_cont {P : Prop} {bk nx : L2.St → Hp → Prop} {rt : VK} (hp : P) (hs : Sub G G1 := by repeat (first | exact trivial | refine ⟨fun _ _ h => h, ?_⟩)) (hl : L = L1 := by rfl) : SJ X F0 Fr G L (.Continue pos :: rest) ⟨nx, rt, bk, AtP P F0 Fr G1 L1⟩ := fun σ F H x hE hS => WB.of (pss_cons ps_continue pss_never) (show AtP P F0 Fr G1 L1 σ H from ⟨hp, F, x, hE.sub hs, hl ▸ hS⟩)
theorem SJ.base {F1 : Hp} (h : SJ X F0 Fr G L ss D) (hx : Ext F0 F1) : SJ X F1 Fr G L ss D := fun σ F H x hE hS => h σ F H (hx.trans x) hE hS
theorem sj_brk {F1 : Hp} {ss' : List Stmt} {nx ct : L2.St → Hp → Prop} {rt : VK} (h : SJ X F0 Fr G L ss' D) (hx : Ext F0 F1 := by first | exact Ext.refl _ | assumption) : SJ X F1 Fr G L (.Break pos :: rest) ⟨nx, rt, WB X ss' D, ct⟩ := fun σ F H x hE hS => WB.of (pss_cons ps_break pss_never) (h σ F H (hx.trans x) hE hS)
theorem sj_pass (h : SJ X F0 Fr G L rest D) : SJ X F0 Fr G L (.Pass pos :: rest) D := fun σ F H x hE hS => WB.of (pss_cons ps_pass wb) (h σ F H x hE hS)
/-- name = e -/
theorem sj_setX {κ : Type} {R : κ → MP} {L1 : κ → List Atm} {x : Str} (i : Nat) (h : EX X G L e R L1) (h2 : ∀ y, SJ X F0 Fr (G.set i (some (R y))) (L1 y) rest D) (hN : X.N.Nodup) (hi : X.N[i]? = some x := by rfl)
    (hx : Loc X.env.scope x := by first | exact Or.inl rfl | exact Or.inr rfl) (hs : swapsWith e (some (.Name x pos')) pos.line X.env = pure false := by rfl) (hf : X.fn x = true ∨ X.env.scope.names.lookup x = some .local := by first | exact .inl rfl | exact .inr rfl) :
    SJ X F0 Fr G L (.Assign [.Name x pos'] e pos :: rest) D := fun σ F H x0 hE hS =>
  WB.of (pss_cons (ps_set hN hi hx we hs hf) wb) (h Fr σ F H _ hE hS fun y v F1 H1 x1 s1 r1 => h2 y _ F1 H1 (x0.trans x1) ((hE.mono x1).set r1 i) s1)
theorem sj_set {x : Str} (i : Nat) (h : EJ X G L e R L1) (h2 : SJ X F0 Fr (G.set i (some R)) L1 rest D) (hN : X.N.Nodup) (hi : X.N[i]? = some x := by rfl)
    (hx : Loc X.env.scope x := by first | exact Or.inl rfl | exact Or.inr rfl) (hs : swapsWith e (some (.Name x pos')) pos.line X.env = pure false := by rfl) (hf : X.fn x = true ∨ X.env.scope.names.lookup x = some .local := by first | exact .inl rfl | exact .inr rfl) :
    SJ X F0 Fr G L (.Assign [.Name x pos'] e pos :: rest) D := sj_setX (κ := Unit) i (R := fun _ => R) (L1 := fun _ => L1) (fun Fr σ F H Q hE hS k => h Fr σ F H Q hE hS (k ())) (fun _ => h2) hN hi hx hs hf
/-- an expression, its value dropped -/
theorem sj_expr (h : EJ X G L e R L1) (h2 : SJ X F0 Fr G L1 rest D) (hs : swapsWith e none pos.line X.env = pure false := by rfl) : SJ X F0 Fr G L (.Expr e pos :: rest) D := fun σ F H x0 hE hS =>
  WB.of (pss_cons (ps_expr we hs) wb) (h Fr σ F H _ hE hS fun v F1 H1 x1 s1 r1 => h2 _ F1 H1 (x0.trans x1) (hE.mono x1) s1)
theorem sj_doc {x j p2} (h2 : SJ X F0 Fr G L rest D) : SJ X F0 Fr G L (.Expr (.Constant (.str x) j p2) pos :: rest) D := fun σ F H x0 hE hS => WB.of (pss_cons ps_doc wb) (h2 σ F H x0 hE hS)
theorem sj_ret {F1 : Hp} {κ : Type} {R' : κ → MP} {L' : κ → List Atm} {nx bk ct : L2.St → Hp → Prop} (y : κ) (h : EJ X G L e R L1) (hl : L1 = L' y) (hr : ∀ v F, R.p v F → (R' y).p v F) (hx : Ext F0 F1 := by first | exact Ext.refl _ | assumption) : SJ X F1 Fr G L (.Return (some e) pos :: rest) ⟨nx, Rt F0 Fr R' L', bk, ct⟩ := fun σ F H x0 hE hS =>
  WB.of (pss_cons (ps_ret we) pss_never) (h Fr σ F H _ hE hS fun v F1 H1 x1 s1 r1 => ⟨y, F1, (hx.trans x0).trans x1, hl ▸ s1, hr v F1 r1⟩)
theorem sj_retX {F1 : Hp} {κ ι : Type} {R' : κ → MP} {L' : κ → List Atm} {Rx : ι → MP} {Lx : ι → List Atm} {nx bk ct : L2.St → Hp → Prop} (h : EX X G L e Rx Lx) (hk : ∀ z, ∃ y, Lx z = L' y ∧ ∀ v F, (Rx z).p v F → (R' y).p v F) (hx : Ext F0 F1 := by first | exact Ext.refl _ | assumption) : SJ X F1 Fr G L (.Return (some e) pos :: rest) ⟨nx, Rt F0 Fr R' L', bk, ct⟩ := fun σ F H x0 hE hS =>
  WB.of (pss_cons (ps_ret we) pss_never) (h Fr σ F H _ hE hS fun z v F1 H1 x1 s1 r1 => let ⟨y, hl, hr⟩ := hk z; ⟨y, F1, (hx.trans x0).trans x1, hl ▸ s1, hr v F1 r1⟩)
theorem sj_retN {F1 : Hp} {κ : Type} {R' : κ → MP} {L' : κ → List Atm} {nx bk ct : L2.St → Hp → Prop} (y : κ) (hl : L = L' y) (hr : ∀ F, (R' y).p .non F) (hx : Ext F0 F1 := by first | exact Ext.refl _ | assumption) : SJ X F1 Fr G L (.Return none pos :: rest) ⟨nx, Rt F0 Fr R' L', bk, ct⟩ := fun σ F H x0 hE hS =>
  WB.of (pss_cons ps_retN pss_never) ⟨y, F, hx.trans x0, hl ▸ hS, hr F⟩
theorem sj_if {t : Bool} {ss1 ss2 : List Stmt} (h : TJ X G L c t L1) (h1 : t = true → SJ X F0 Fr G L1 ss1 (thenDo X rest D)) (h2 : t = false → SJ X F0 Fr G L1 ss2 (thenDo X rest D)) : SJ X F0 Fr G L (.If c ss1 ss2 pos :: rest) D := fun σ F H x0 hE hS =>
  WB.of (pss_cons (ps_if wt wb wb) wb) (h Fr σ F H _ hE hS fun F1 H1 x1 s1 => by
    cases t with
    | true => exact h1 rfl σ F1 H1 (x0.trans x1) (hE.mono x1) s1
    | false => exact h2 rfl σ F1 H1 (x0.trans x1) (hE.mono x1) s1)
theorem sj_ifT {ss1 ss2 : List Stmt} (h : TJ X G L c true L1) (h1 : SJ X F0 Fr G L1 ss1 (thenDo X rest D)) : SJ X F0 Fr G L (.If c ss1 ss2 pos :: rest) D := sj_if h (fun _ => h1) fun z => Bool.noConfusion z
theorem sj_ifF {ss1 ss2 : List Stmt} (h : TJ X G L c false L1) (h1 : SJ X F0 Fr G L1 ss2 (thenDo X rest D)) : SJ X F0 Fr G L (.If c ss1 ss2 pos :: rest) D := sj_if h (fun z => Bool.noConfusion z) fun _ => h1
/-- both branches come to one state -/
theorem sj_ifJ {t : Bool} {ss1 ss2 : List Stmt} (G1 : Gam) (Lj : List Atm) (h : TJ X G L c t L1) (h1 : t = true → SJ X F0 Fr G L1 ss1 { D with nx := At F0 Fr G1 Lj }) (h2 : t = false → SJ X F0 Fr G L1 ss2 { D with nx := At F0 Fr G1 Lj }) (h3 : SJ X F0 Fr G1 Lj rest D) : SJ X F0 Fr G L (.If c ss1 ss2 pos :: rest) D := fun σ F H x0 hE hS =>
  WB.of (pss_cons (ps_if wt wb wb) wb) (h Fr σ F H _ hE hS fun F1 H1 x1 s1 => by
    have fin : ∀ σ H, At F0 Fr G1 Lj σ H → WB X rest D σ H := fun σ H ⟨F, x, hE, hS⟩ => h3 σ F H x hE hS
    cases t with
    | true => exact (h1 rfl σ F1 H1 (x0.trans x1) (hE.mono x1) s1).mono (D' := thenDo X rest D) fin (fun _ _ z => z) (fun _ _ z => z) fun _ _ z => z
    | false => exact (h2 rfl σ F1 H1 (x0.trans x1) (hE.mono x1) s1).mono (D' := thenDo X rest D) fin (fun _ _ z => z) (fun _ _ z => z) fun _ _ z => z)
/-- ghost steps: weaker slots, other names for the state -/
theorem sj_sub (hs : Sub G G1) (h : SJ X F0 Fr G1 L ss D) : SJ X F0 Fr G L ss D := fun σ F H x hE hS => h σ F H x (hE.sub hs) hS
theorem sj_own (hl : L = L1) (h : SJ X F0 Fr G L1 ss D) : SJ X F0 Fr G L ss D := hl ▸ h
theorem sj_perm (hl : L.Perm L1) (h : SJ X F0 Fr G L1 ss D) : SJ X F0 Fr G L ss D := fun σ F H x hE hS => h σ F H x hE (hS.perm (hl.append_right Fr))
theorem sj_drop {P : Atm} (h : SJ X F0 Fr G L ss D) : SJ X F0 Fr G (P :: L) ss D := fun σ F H x hE hS => h σ F H x hE hS.drop
end
end J
/-! J3: owned lists and instances, fields, places, built-in calls, targets, loops. -/
namespace J
open PySem PySem.Spec PyProof.Rows L2

section
variable {X : Cx} {G G1 G2 : Gam} {L L1 L2' L3 : List Atm} {a b c e o : Expr} {es : List Expr} {R Ra Rb Rc : MP} {Rs Rs' : List MP} {pos pos' apos : Pos} {i j : Int} {F0 F H : Hp} {Fr : List Atm} {D : Ends} {ss rest : List Stmt} {q C : Addr} {ns : List Str} {f : Str}

/-! ### owned things -/
theorem get_app {k : Nat} {P : Atm} (hi : L[k]? = some P) : (L ++ Fr)[k]? = some P := by
  rw [List.getElem?_append_left (List.getElem?_eq_some_iff.mp hi).1]; exact hi
theorem set_app {k : Nat} {P P' : Atm} (hi : L[k]? = some P) : (L ++ Fr).set k P' = L.set k P' ++ Fr := by
  rw [List.set_append_left _ _ (List.getElem?_eq_some_iff.mp hi).1]
theorem era_app {k : Nat} {P : Atm} (hi : L[k]? = some P) : (L ++ Fr).eraseIdx k = L.eraseIdx k ++ Fr := by
  rw [List.eraseIdx_append_of_lt_length (List.getElem?_eq_some_iff.mp hi).1]
theorem Sep.lst {k : Nat} (s : Sep F (L ++ Fr) H) (hi : L[k]? = some (AtL q Rs)) : ∃ vs, H q = some (.lst vs) ∧ All Rs vs F ∧ ∀ Rs' vs', All Rs' vs' F → Sep F (L.set k (AtL q Rs') ++ Fr) (upd H q (.lst vs')) := by
  obtain ⟨h1, ⟨vs, e, r⟩, x1, _, t, _⟩ := s.at (get_app (Fr := Fr) hi)
  subst e
  refine ⟨vs, x1 q _ one_same, r, fun Rs' vs' r' => ?_⟩
  rw [← set_app (Fr := Fr) hi]
  refine t (AtL q Rs') (one q (.lst vs')) ⟨vs', rfl, r'⟩ (fun a z => one_ne fun w => ?_) _ (fun a u z => ?_) fun a z => upd_ne fun w => ?_
  · rw [w, one_same] at z; cases z
  · by_cases w : a = q
    · rw [w, one_same] at z; rw [w, upd_same]; exact z
    · rw [one_ne w] at z; cases z
  · rw [w, one_same] at z; cases z
theorem Sep.ins {k : Nat} (s : Sep F (L ++ Fr) H) (hi : L[k]? = some (AtI q C ns Rs)) : ∃ dx vs, H q = some (.ins C dx (ns.zip vs)) ∧ ns.length = vs.length ∧ All Rs vs F ∧
    ∀ ns' Rs' vs', ns'.length = vs'.length → All Rs' vs' F → Sep F (L.set k (AtI q C ns' Rs') ++ Fr) (upd H q (.ins C dx (ns'.zip vs'))) := by
  obtain ⟨h1, ⟨dx, vs, ne, e, hl, r⟩, x1, _, t, _⟩ := s.at (get_app (Fr := Fr) hi)
  subst e
  refine ⟨dx, vs, x1 q _ (jn_l one_same), hl, r, fun ns' Rs' vs' hl' r' => ?_⟩
  rw [← set_app (Fr := Fr) hi]
  refine t (AtI q C ns' Rs') (jn (one q (.ins C dx (ns'.zip vs'))) (one dx (.own q))) ⟨dx, vs', ne, rfl, hl', r'⟩ (fun a z => ?_) _ (fun a u z => ?_) fun a z => upd_ne fun w => ?_
  · rw [jn_none] at z ⊢
    refine ⟨one_ne fun w => ?_, z.2⟩
    rw [w, one_same] at z; cases z.1
  · by_cases w : a = q
    · rw [w, jn_l one_same] at z; rw [w, upd_same]; exact z
    · rw [jn_r (one_ne w)] at z
      rw [upd_ne w]
      exact x1 a u (by rw [jn_r (one_ne w)]; exact z)
  · rw [w, jn_none, one_same] at z; cases z.1
/-- what is owned is given up and frozen -/
theorem Sep.frzL {k : Nat} {K : PySem.W.Frag} (s : Sep F (L ++ Fr) H) (hi : L[k]? = some (AtL q Rs)) : ∃ F', Ext F F' ∧ Sep F' (L.eraseIdx k ++ Fr) H ∧ (IsLst K Rs).p (.ref q) F' := by
  obtain ⟨h1, ⟨vs, e, r⟩, x1, dF, _, _, xe, s'⟩ := s.at (get_app (Fr := Fr) hi)
  subst e
  rw [era_app (Fr := Fr) hi] at s'
  refine ⟨_, xe, s', q, vs, rfl, Or.inl (Or.inl ?_), r.mono xe⟩
  exact ext_jr dF q _ one_same
theorem Sep.frzI {k : Nat} (s : Sep F (L ++ Fr) H) (hi : L[k]? = some (AtI q C ns Rs)) : ∃ F', Ext F F' ∧ Sep F' (L.eraseIdx k ++ Fr) H ∧ (IsIns C ns Rs).p (.ref q) F' := by
  obtain ⟨h1, ⟨dx, vs, ne, e, hl, r⟩, x1, dF, _, _, xe, s'⟩ := s.at (get_app (Fr := Fr) hi)
  subst e
  rw [era_app (Fr := Fr) hi] at s'
  exact ⟨_, xe, s', q, dx, vs, rfl, ext_jr dF q _ (jn_l one_same), hl, r.mono xe⟩
theorem EX.frzL {Rs : List MP} (h : EX X G L e (fun q => IsAddr q) (fun q => AtL q Rs :: L1)) : EJ X G L e (IsLst X.K Rs) L1 := fun Fr σ F H Q hE hS k => h Fr σ F H Q hE hS fun q v F1 H1 x1 s1 r1 => by
  have e : v = .ref q := r1
  subst e
  obtain ⟨F2, x2, s2, r2⟩ := Sep.frzL (K := X.K) (L := AtL q Rs :: L1) (k := 0) s1 rfl
  exact k _ F2 H1 (x1.trans x2) s2 r2
theorem EX.frzI {Rs : List MP} (h : EX X G L e (fun q => IsAddr q) (fun q => AtI q C ns Rs :: L1)) : EJ X G L e (IsIns C ns Rs) L1 := fun Fr σ F H Q hE hS k => h Fr σ F H Q hE hS fun q v F1 H1 x1 s1 r1 => by
  have e : v = .ref q := r1
  subst e
  obtain ⟨F2, x2, s2, r2⟩ := Sep.frzI (L := AtI q C ns Rs :: L1) (k := 0) s1 rfl
  exact k _ F2 H1 (x1.trans x2) s2 r2
/-- the name in the slot m holds an owned thing, which is frozen here -/
theorem sj_frzL (m k : Nat) (hm : G[m]? = some (some (IsAddr q)) := by rfl) (hk : L[k]? = some (AtL q Rs) := by rfl) (h : SJ X F0 Fr (G.set m (some (IsLst X.K Rs))) (L.eraseIdx k) ss D) : SJ X F0 Fr G L ss D := fun σ F H x hE hS => by
  obtain ⟨v, hv, rv⟩ := hE.get hm
  have e : v = .ref q := rv
  subst e
  obtain ⟨F2, x2, s2, r2⟩ := Sep.frzL (K := X.K) hS hk
  have hE' := (hE.mono x2).set r2 m
  rw [show σ.set m (some (.ref q)) = σ from List.ext_getElem? fun n => by
    rw [List.getElem?_set]
    split
    · rename_i e; subst e
      split
      · exact hv.symm
      · rename_i hl; exact absurd (List.getElem?_eq_some_iff.mp hv).1 hl
    · rfl] at hE'
  exact h σ F2 H (x.trans x2) hE' s2
theorem sj_frzI (m k : Nat) (hm : G[m]? = some (some (IsAddr q)) := by rfl) (hk : L[k]? = some (AtI q C ns Rs) := by rfl) (h : SJ X F0 Fr (G.set m (some (IsIns C ns Rs))) (L.eraseIdx k) ss D) : SJ X F0 Fr G L ss D := fun σ F H x hE hS => by
  obtain ⟨v, hv, rv⟩ := hE.get hm
  have e : v = .ref q := rv
  subst e
  obtain ⟨F2, x2, s2, r2⟩ := Sep.frzI hS hk
  have hE' := (hE.mono x2).set r2 m
  rw [show σ.set m (some (.ref q)) = σ from List.ext_getElem? fun n => by
    rw [List.getElem?_set]
    split
    · rename_i e; subst e
      split
      · exact hv.symm
      · rename_i hl; exact absurd (List.getElem?_eq_some_iff.mp hv).1 hl
    · rfl] at hE'
  exact h σ F2 H (x.trans x2) hE' s2

/-! ### fields -/
theorem zip_look : ∀ {ns : List Str} {vs : List V} {j : Nat} {f : Str} {v : V}, ns.Nodup → ns[j]? = some f → vs[j]? = some v → (ns.zip vs).lookup f = some v
  | [], _, _, _, _, _, h, _ => by simp at h
  | _ :: _, [], _, _, _, _, _, h => by simp at h
  | n :: ns, u :: vs, 0, f, v, nd, h1, h2 => by
    have e1 : n = f := by simpa using h1
    have e2 : u = v := by simpa using h2
    subst e1 e2
    simp [List.lookup]
  | n :: ns, u :: vs, j + 1, f, v, nd, h1, h2 => by
    have ih := zip_look (j := j) (List.nodup_cons.mp nd).2 (by simpa using h1) (by simpa using h2)
    have hm : f ∈ ns := List.mem_of_getElem? (i := j) (by simpa using h1)
    have hne : (f == n) = false := beq_eq_false_iff_ne.mpr fun e => (List.nodup_cons.mp nd).1 (e ▸ hm)
    simp only [List.zip_cons_cons, List.lookup, hne]
    exact ih
theorem zip_nolook : ∀ {ns : List Str} {vs : List V} {f : Str}, f ∉ ns → (ns.zip vs).lookup f = none
  | [], _, _, _ => rfl
  | _ :: _, [], _, _ => rfl
  | n :: ns, u :: vs, f, h => by
    have hne : (f == n) = false := beq_eq_false_iff_ne.mpr fun e => h (e ▸ List.mem_cons_self)
    simp only [List.zip_cons_cons, List.lookup, hne]
    exact zip_nolook fun m => h (List.mem_cons_of_mem _ m)
theorem zip_put : ∀ {ns : List Str} {vs : List V} {j : Nat} {f : Str} {v : V}, ns.Nodup → ns[j]? = some f → ns.length = vs.length → putF f v (ns.zip vs) = ns.zip (vs.set j v)
  | [], _, _, _, _, _, h, _ => by simp at h
  | _ :: _, [], _, _, _, _, _, h => by simp at h
  | n :: ns, u :: vs, 0, f, v, nd, h1, h2 => by
    have e1 : n = f := by simpa using h1
    subst e1
    simp [putF]
  | n :: ns, u :: vs, j + 1, f, v, nd, h1, h2 => by
    have ih := zip_put (v := v) (j := j) (vs := vs) (List.nodup_cons.mp nd).2 (by simpa using h1) (by simpa using h2)
    have hm : f ∈ ns := List.mem_of_getElem? (i := j) (by simpa using h1)
    have hne : n ≠ f := fun e => (List.nodup_cons.mp nd).1 (e ▸ hm)
    show putF f v ((n, u) :: ns.zip vs) = (n, u) :: ns.zip (vs.set j v)
    rw [show putF f v ((n, u) :: ns.zip vs) = (if n = f then (n, v) :: ns.zip vs else (n, u) :: putF f v (ns.zip vs)) from rfl, if_neg hne, ih]
theorem zip_new : ∀ {ns : List Str} {vs : List V} {f : Str} {v : V}, f ∉ ns → ns.length = vs.length → putF f v (ns.zip vs) = (ns ++ [f]).zip (vs ++ [v])
  | [], [], _, _, _, _ => rfl
  | [], _ :: _, _, _, _, h => by simp at h
  | _ :: _, [], _, _, _, h => by simp at h
  | n :: ns, u :: vs, f, v, h1, h2 => by
    have ih := zip_new (v := v) (vs := vs) (fun m => h1 (List.mem_cons_of_mem _ m)) (by simpa using h2)
    have hne : n ≠ f := fun e => h1 (e ▸ List.mem_cons_self)
    show putF f v ((n, u) :: ns.zip vs) = (n, u) :: (ns ++ [f]).zip (vs ++ [v])
    rw [show putF f v ((n, u) :: ns.zip vs) = (if n = f then (n, v) :: ns.zip vs else (n, u) :: putF f v (ns.zip vs)) from rfl, if_neg hne, ih]
/-- a class whose attributes ns are no names of its own -/
structure CF (K : PySem.W.Frag) (C : Addr) (all : List Str) : Prop where
  cl : Cls K C
  na : ∀ f ∈ all, NoAttr K C f
theorem ej_fld {all : List Str} (m : Nat) (h : EJ X G L e (IsIns C ns Rs) L1) (cf : CF X.K C all) (hm : ns[m]? = some f := by rfl) (hR : Rs[m]? = some R := by rfl) (hf : f ∈ all := by decide) (nd : ns.Nodup := by decide)
    (hb : attributeBase e f X.env (eval e X.env) = eval e X.env := by rfl) : EJ X G L (.Attribute e f pos) R L1 := fun Fr σ F H Q hE hS k =>
  WE.of (pe_fld we hb) (h Fr σ F H _ hE hS fun v F1 H1 x1 s1 ⟨a, dx, vs, e1, e2, hl, r⟩ => by
    obtain ⟨u, hu, ru⟩ := r.val hR
    exact ⟨a, C, dx, ns.zip vs, u, e1, s1.ext a _ e2, cf.cl, cf.na f hf, zip_look nd hm hu, k u F1 H1 x1 s1 ru⟩)
/-- of an owned instance -/
theorem ej_fldO {all : List Str} (n m : Nat) (h : EJ X G L e (IsAddr q) L1) (cf : CF X.K C all) (hn : L1[n]? = some (AtI q C ns Rs) := by rfl) (hm : ns[m]? = some f := by rfl) (hR : Rs[m]? = some R := by rfl) (hf : f ∈ all := by decide) (nd : ns.Nodup := by decide)
    (hb : attributeBase e f X.env (eval e X.env) = eval e X.env := by rfl) : EJ X G L (.Attribute e f pos) R L1 := fun Fr σ F H Q hE hS k =>
  WE.of (pe_fld we hb) (h Fr σ F H _ hE hS fun v F1 H1 x1 s1 r1 => by
    obtain ⟨dx, vs, e2, hl, r, _⟩ := s1.ins hn
    obtain ⟨u, hu, ru⟩ := r.val hR
    exact ⟨q, C, dx, ns.zip vs, u, r1, e2, cf.cl, cf.na f hf, zip_look nd hm hu, k u F1 H1 x1 s1 ru⟩)
/-- o.f = value, o owned: a field that stands -/
theorem sj_fld {all : List Str} (n m : Nat) (hv : EJ X G L e R L1) (ho : EJ X G L1 o (IsAddr q) L2') (cf : CF X.K C all) (h2 : SJ X F0 Fr G (L2'.set n (AtI q C ns (Rs.set m R))) rest D) (hn : L2'[n]? = some (AtI q C ns Rs) := by rfl) (hm : ns[m]? = some f := by rfl)
    (hf : f ∈ all := by decide) (nd : ns.Nodup := by decide) (hz : ns.length < 1000 := by decide) (hs : swapsWith e (some (.Attribute o f pos')) pos.line X.env = pure false := by rfl) : SJ X F0 Fr G L (.Assign [.Attribute o f pos'] e pos :: rest) D := fun σ F H x0 hE hS =>
  WB.of (pss_cons (ps_fld we we hs) wb) (hv Fr σ F H _ hE hS fun v F1 H1 x1 s1 r1 => ho Fr σ F1 H1 _ (hE.mono x1) s1 fun u F2 H2 x2 s2 r2 => by
    obtain ⟨dx, vs, e2, hl, r, w⟩ := s2.ins hn
    refine ⟨q, C, dx, ns.zip vs, r2, e2, cf.cl, cf.na f hf, ?_, ?_⟩
    · rw [List.length_zip]; omega
    · rw [zip_put nd hm hl]
      exact h2 σ F2 _ ((x0.trans x1).trans x2) ((hE.mono x1).mono x2) (w ns _ _ (by rw [List.length_set]; exact hl) (r.set (R.mono x2 r1) m)))
/-- a new field -/
theorem sj_fldN {all : List Str} (n : Nat) (hv : EJ X G L e R L1) (ho : EJ X G L1 o (IsAddr q) L2') (cf : CF X.K C all) (h2 : SJ X F0 Fr G (L2'.set n (AtI q C (ns ++ [f]) (Rs ++ [R]))) rest D) (hn : L2'[n]? = some (AtI q C ns Rs) := by rfl) (hm : f ∉ ns := by decide)
    (hf : f ∈ all := by decide) (hz : ns.length < 1000 := by decide) (hs : swapsWith e (some (.Attribute o f pos')) pos.line X.env = pure false := by rfl) : SJ X F0 Fr G L (.Assign [.Attribute o f pos'] e pos :: rest) D := fun σ F H x0 hE hS =>
  WB.of (pss_cons (ps_fld we we hs) wb) (hv Fr σ F H _ hE hS fun v F1 H1 x1 s1 r1 => ho Fr σ F1 H1 _ (hE.mono x1) s1 fun u F2 H2 x2 s2 r2 => by
    obtain ⟨dx, vs, e2, hl, r, w⟩ := s2.ins hn
    refine ⟨q, C, dx, ns.zip vs, r2, e2, cf.cl, cf.na f hf, ?_, ?_⟩
    · rw [List.length_zip]; omega
    · rw [zip_new hm hl]
      exact h2 σ F2 _ ((x0.trans x1).trans x2) ((hE.mono x1).mono x2) (w _ _ _ (by simp [hl]) (r.append ⟨R.mono x2 r1, trivial⟩)))

/-! ### places -/
theorem ej_ixT {n : Nat} (ha : EJ X G L a (IsTup X.K Rs) L1) (hb : EJ X G L1 b (IsInt j) L2') (hR : Rs[n]? = some R := by rfl) (hn : j = (n : Int) := by rfl) (hs : PlainIx b := by exact fun _ _ => rfl) : EJ X G L (.Subscript a b pos) R L2' := fun Fr σ F H Q hE hS k =>
  WE.of (pe_ix ix_tup we we hs) (ha Fr σ F H _ hE hS fun v F1 H1 x1 s1 r1 => hb Fr σ F1 H1 _ (hE.mono x1) s1 fun u F2 H2 x2 s2 r2 => by
    obtain ⟨p, xs, e1, h1, h2⟩ := (IsTup X.K Rs).mono x2 r1
    obtain ⟨w, hw, rw'⟩ := h2.val hR
    exact ⟨p, xs, j, w, e1, r2, seqT_mono s2.ext h1, by rw [hn]; exact atI_nat hw, k w F2 H2 (x1.trans x2) s2 rw'⟩)
theorem ej_ixL {n : Nat} (ha : EJ X G L a (IsLst X.K Rs) L1) (hb : EJ X G L1 b (IsInt j) L2') (hR : Rs[n]? = some R := by rfl) (hn : j = (n : Int) := by rfl) (hs : PlainIx b := by exact fun _ _ => rfl) : EJ X G L (.Subscript a b pos) R L2' := fun Fr σ F H Q hE hS k =>
  WE.of (pe_ix ix_list we we hs) (ha Fr σ F H _ hE hS fun v F1 H1 x1 s1 r1 => hb Fr σ F1 H1 _ (hE.mono x1) s1 fun u F2 H2 x2 s2 r2 => by
    obtain ⟨p, xs, e1, h1, h2⟩ := (IsLst X.K Rs).mono x2 r1
    obtain ⟨w, hw, rw'⟩ := h2.val hR
    exact ⟨p, xs, j, w, e1, r2, seqL_mono s2.ext h1, by rw [hn]; exact atI_nat hw, k w F2 H2 (x1.trans x2) s2 rw'⟩)
theorem ej_ixO (m : Nat) {n : Nat} (ha : EJ X G L a (IsAddr q) L1) (hb : EJ X G L1 b (IsInt j) L2') (hm : L2'[m]? = some (AtL q Rs) := by rfl) (hR : Rs[n]? = some R := by rfl) (hn : j = (n : Int) := by rfl) (hs : PlainIx b := by exact fun _ _ => rfl) : EJ X G L (.Subscript a b pos) R L2' := fun Fr σ F H Q hE hS k =>
  WE.of (pe_ix ix_list we we hs) (ha Fr σ F H _ hE hS fun v F1 H1 x1 s1 r1 => hb Fr σ F1 H1 _ (hE.mono x1) s1 fun u F2 H2 x2 s2 r2 => by
    obtain ⟨xs, h1, h2, _⟩ := s2.lst hm
    obtain ⟨w, hw, rw'⟩ := h2.val hR
    exact ⟨q, xs, j, w, r1, r2, Or.inl (Or.inl h1), by rw [hn]; exact atI_nat hw, k w F2 H2 (x1.trans x2) s2 rw'⟩)
theorem ej_ixS {z : Str} {n ch : Nat} (ha : EJ X G L a (IsStr z) L1) (hb : EJ X G L1 b (IsInt j) L2') (hz : z.length ≤ 100000) (hR : z.cps.toList[n]? = some ch) (hn : j = (n : Int) := by rfl) (hs : PlainIx b := by exact fun _ _ => rfl) : EJ X G L (.Subscript a b pos) (IsStr ⟨#[ch]⟩) L2' := fun Fr σ F H Q hE hS k =>
  WE.of (pe_ix ix_str we we hs) (ha Fr σ F H _ hE hS fun v F1 H1 x1 s1 r1 => hb Fr σ F1 H1 _ (hE.mono x1) s1 fun u F2 H2 x2 s2 r2 =>
    ⟨z, j, ch, r1, r2, small_line hz, by rw [hn]; exact atI_nat hR, k _ F2 H2 (x1.trans x2) s2 rfl⟩)
/-- o[n] = e of an owned list -/
theorem sj_store (m : Nat) {n : Nat} (he : EJ X G L e R L1) (ha : EJ X G L1 a (IsAddr q) L2') (hb : EJ X G L2' b (IsInt j) L3) (h2 : SJ X F0 Fr G (L3.set m (AtL q (Rs.set n R))) rest D) (hm : L3[m]? = some (AtL q Rs) := by rfl) (hl : n < Rs.length := by exact of_decide_eq_true rfl) (hn : j = (n : Int) := by rfl)
    (hw : ∀ v, assign (.Subscript a b pos') X.env v = (do
      let ov ← holding [v] (eval a X.env)
      let iv ← holding [v, ov] (eval b X.env)
      standAt pos'
      holding [v, ov, iv] (setItem ov iv v)
      release [v, ov, iv] []) := by intro _; rfl) (hs : swapsWithSole [.Subscript a b pos'] e pos.line X.env = pure false := by rfl) (hss : swappedStores [.Subscript a b pos'] e X.env = pure none := by rfl) (hae : (assignEach [.Subscript a b pos'] X.env).map (·.2) = [assign (.Subscript a b pos') X.env] := by rfl) : SJ X F0 Fr G L (.Assign [.Subscript a b pos'] e pos :: rest) D := fun σ F H x0 hE hS =>
  WB.of (pss_cons (ps_asg we (pg_sub we we set_list hw) hs hss hae) wb) (he Fr σ F H _ hE hS fun v F1 H1 x1 s1 r1 => ha Fr σ F1 H1 _ (hE.mono x1) s1 fun u F2 H2 x2 s2 r2 => hb Fr σ F2 H2 _ ((hE.mono x1).mono x2) s2 fun w F3 H3 x3 s3 r3 => by
    obtain ⟨xs, e1, r, t⟩ := s3.lst hm
    refine ⟨q, xs, j, n, r2, r3, e1, ?_, ?_⟩
    · have hl' : n < xs.length := by rw [← r.len]; exact hl
      unfold ixN
      rw [hn, if_pos (by omega), if_pos (by omega)]; simp
    · exact h2 σ F3 _ (((x0.trans x1).trans x2).trans x3) (((hE.mono x1).mono x2).mono x3) (t _ _ (r.set (R.mono (x2.trans x3) r1) n)))
/-- o.append(e) of an owned list -/
theorem ej_append (m : Nat) (ho : EJ X G L o (IsAddr q) L1) (he : EJ X G L1 e R L2') (hm1 : L1[m]? = some (AtL q Rs') := by rfl) (hm : L2'[m]? = some (AtL q Rs) := by rfl) (hl : Rs.length < 100000)
    (hbase : attributeBase o "append" X.env (eval o X.env) = eval o X.env := by rfl)
    (hfew : ((backTo pos (starEach [e] X.env)).all (fun x => !x.1) && (backToKw pos (keywordEach [] X.env)).all (fun x => x.1.isSome)
      && decide ([e].length + ([] : List Keyword).length + (if ([] : List Keyword).isEmpty then 0 else 1) < 30)) = true := by rfl)
    (hline : (apos.endLine == pos.line) = true := by rfl) (hs : starEach [e] X.env = (false, eval e X.env) :: starEach [] X.env := by rfl) (hplain : (backTo pos (starEach [] X.env)).any (·.1) = false := by rfl) :
    EJ X G L (.Call (.Attribute o "append" apos) [e] [] pos) IsNone (L2'.set m (AtL q (Rs ++ [R]))) := fun Fr σ F H Q hE hS k =>
  WE.of (pe_bm PySem.F.plainAttrs_list PySem.F.slot_list_append PySem.F.type_list_append mt_append we (pa_cons we pa_nil hs) hbase hfew hline hs hplain) (ho Fr σ F H _ hE hS fun v F1 H1 x1 s1 r1 => by
    have e1 : v = .ref q := r1
    subst e1
    obtain ⟨xs1, h1, _, _⟩ := s1.lst hm1
    refine ⟨Or.inl ⟨rfl, _, Or.inl (Or.inl h1)⟩, ?_⟩
    exact he Fr σ F1 H1 _ (hE.mono x1) s1 fun u F2 H2 x2 s2 r2 => by
      obtain ⟨xs, h2, r, t⟩ := s2.lst hm
      exact ⟨q, xs, u, rfl, rfl, h2, by rw [← r.len]; exact small_lt hl, k _ F2 _ (x1.trans x2) (t _ _ (r.append ⟨r2, trivial⟩)) rfl⟩)
end
end J
/-! J4: built-in calls, targets, loops, comprehensions. -/
namespace J
open PySem PySem.Spec PyProof.Rows L2

section
variable {X : Cx} {G G0 G1 G2 : Gam} {L L1 L2' L3 : List Atm} {a b c e o : Expr} {es : List Expr} {R Ra Rb Rc : MP} {Rs Rs' As : List MP} {pos pos' apos p : Pos} {i j : Int} {F0 F H : Hp} {Fr : List Atm} {D : Ends} {ss rest body : List Stmt} {q C : Addr} {ns : List Str} {f x : Str} {tg iter : Expr}

/-! ### built-in calls -/
def CJ (r : List V → Hp → VK → Prop) (As : List MP) (L : List Atm) (R : MP) (L' : List Atm) : Prop :=
  ∀ (Fr : List Atm) (vs : List V) (F H : Hp) (Q : VK), All As vs F → Sep F (L ++ Fr) H → (∀ w F' H', Ext F F' → Sep F' (L' ++ Fr) H' → R.p w F' → Q w H') → r vs H Q
theorem ej_callB {id : String} {r : List V → Hp → VK → Prop} (hc : CallR X (.builtin id) r) (hm : X.mg x = none) (hv : bootBuiltins x = some (.builtin id)) (ha : AJ X G L (e :: es) As L1) (hr : CJ r As L1 R L2') (hg : Gl X x := by rfl) (hn : x ≠ "__name__" := by decide) (hdb : (x == ("__debug__" : Str)) = false := by decide)
    (he : starEach (e :: es) X.env = (false, eval e X.env) :: starEach es X.env := by rfl) (hpl : (backTo pos (starEach es X.env)).any (·.1) = false := by rfl) : EJ X G L (.Call (.Name x p) (e :: es) [] pos) R L2' := fun Fr σ F H Q hE hS k =>
  WE.of (pe_callB hc hg hm hv wa hn hdb he hpl) (ha Fr σ F H _ hE hS fun vs F1 H1 x1 s1 r1 => hr Fr vs F1 H1 _ r1 s1 fun w F2 H2 x2 s2 r2 => k w F2 H2 (x1.trans x2) s2 r2)
theorem ej_callT {T : String} {r : List V → Hp → VK → Prop} (hc : CallR X (.type T) r) (hm : X.mg x = none) (hv : bootBuiltins x = some (.type T)) (ha : AJ X G L (e :: es) As L1) (hr : CJ r As L1 R L2') (hg : Gl X x := by rfl) (hn : x ≠ "__name__" := by decide) (hdb : (x == ("__debug__" : Str)) = false := by decide)
    (he : starEach (e :: es) X.env = (false, eval e X.env) :: starEach es X.env := by rfl) (hpl : (backTo pos (starEach es X.env)).any (·.1) = false := by rfl) : EJ X G L (.Call (.Name x p) (e :: es) [] pos) R L2' := fun Fr σ F H Q hE hS k =>
  WE.of (pe_callTy hc hg hm hv wa hn hdb he hpl) (ha Fr σ F H _ hE hS fun vs F1 H1 x1 s1 r1 => hr Fr vs F1 H1 _ r1 s1 fun w F2 H2 x2 s2 r2 => k w F2 H2 (x1.trans x2) s2 r2)
theorem all1 {F : Hp} {vs : List V} (h : All [Ra] vs F) : ∃ v, vs = [v] ∧ Ra.p v F := by
  match vs, h with
  | [v], h => exact ⟨v, rfl, h.1⟩
  | [], h => exact h.elim
  | _ :: _ :: _, h => exact h.2.elim
theorem all2 {F : Hp} {vs : List V} (h : All [Ra, Rb] vs F) : ∃ v u, vs = [v, u] ∧ Ra.p v F ∧ Rb.p u F := by
  match vs, h with
  | [v, u], h => exact ⟨v, u, rfl, h.1, h.2.1⟩
  | [], h => exact h.elim
  | [_], h => exact h.2.elim
  | _ :: _ :: _ :: _, h => exact h.2.2.elim
theorem ej_lenL (hm : X.mg "len" = none) (ha : AJ X G L [e] [IsLst X.K Rs] L1) (hg : Gl X "len" := by rfl) (he : starEach [e] X.env = (false, eval e X.env) :: starEach [] X.env := by rfl) : EJ X G L (.Call (.Name "len" p) [e] [] pos) (IsInt (Rs.length : Int)) L1 :=
  ej_callB call_len_seq hm boot_len ha (fun Fr vs F H Q h s k => by
    obtain ⟨v, rfl, t, ys, rfl, h1, h2⟩ := all1 h
    exact ⟨t, ys, rfl, Or.inl (seqL_mono s.ext h1), k _ F H (Ext.refl F) s (by rw [h2.len]; exact rfl)⟩) hg (by decide) (by decide) he rfl
theorem ej_lenT (hm : X.mg "len" = none) (ha : AJ X G L [e] [IsTup X.K Rs] L1) (hg : Gl X "len" := by rfl) (he : starEach [e] X.env = (false, eval e X.env) :: starEach [] X.env := by rfl) : EJ X G L (.Call (.Name "len" p) [e] [] pos) (IsInt (Rs.length : Int)) L1 :=
  ej_callB call_len_seq hm boot_len ha (fun Fr vs F H Q h s k => by
    obtain ⟨v, rfl, t, ys, rfl, h1, h2⟩ := all1 h
    exact ⟨t, ys, rfl, Or.inr (seqT_mono s.ext h1), k _ F H (Ext.refl F) s (by rw [h2.len]; exact rfl)⟩) hg (by decide) (by decide) he rfl
theorem ej_lenO (m : Nat) (hm : X.mg "len" = none) (ha : AJ X G L [e] [IsAddr q] L1) (hk : L1[m]? = some (AtL q Rs) := by rfl) (hg : Gl X "len" := by rfl) (he : starEach [e] X.env = (false, eval e X.env) :: starEach [] X.env := by rfl) : EJ X G L (.Call (.Name "len" p) [e] [] pos) (IsInt (Rs.length : Int)) L1 :=
  ej_callB call_len_seq hm boot_len ha (fun Fr vs F H Q h s k => by
    obtain ⟨v, rfl, e1⟩ := all1 h
    have e2 : v = .ref q := e1
    subst e2
    obtain ⟨xs, h1, h2, _⟩ := s.lst hk
    exact ⟨q, xs, rfl, Or.inl (Or.inl (Or.inl h1)), k _ F H (Ext.refl F) s (by rw [h2.len]; exact rfl)⟩) hg (by decide) (by decide) he rfl
theorem ej_lenS {z : Str} (hm : X.mg "len" = none) (ha : AJ X G L [e] [IsStr z] L1) (hz : z.length ≤ 100000) (hg : Gl X "len" := by rfl) (he : starEach [e] X.env = (false, eval e X.env) :: starEach [] X.env := by rfl) : EJ X G L (.Call (.Name "len" p) [e] [] pos) (IsInt (z.length : Int)) L1 :=
  ej_callB call_len_str hm boot_len ha (fun Fr vs F H Q h s k => by
    obtain ⟨v, rfl, e1⟩ := all1 h
    have e2 : v = .str z := e1
    subst e2
    exact ⟨z, rfl, small_line hz, k _ F H (Ext.refl F) s rfl⟩) hg (by decide) (by decide) he rfl
/-- tuple(a list), tuple(a tuple): frozen -/
theorem ej_tupleL (hm : X.mg "tuple" = none) (ha : AJ X G L [e] [IsLst X.K Rs] L1) (hg : Gl X "tuple" := by rfl) (he : starEach [e] X.env = (false, eval e X.env) :: starEach [] X.env := by rfl) : EJ X G L (.Call (.Name "tuple" p) [e] [] pos) (IsTup X.K Rs) L1 :=
  ej_callT call_tuple_of hm boot_tuple ha (fun Fr vs F H Q h s k => by
    obtain ⟨v, rfl, t, ys, rfl, h1, h2⟩ := all1 h
    exact ⟨t, ys, rfl, Or.inl ⟨seqL_mono s.ext h1, fun l hl => let ⟨a, b, c⟩ := put_tup (X := X) s hl h2; k _ _ _ a b c⟩⟩) hg (by decide) (by decide) he rfl
theorem ej_tupleT (hm : X.mg "tuple" = none) (ha : AJ X G L [e] [IsTup X.K Rs] L1) (hg : Gl X "tuple" := by rfl) (he : starEach [e] X.env = (false, eval e X.env) :: starEach [] X.env := by rfl) : EJ X G L (.Call (.Name "tuple" p) [e] [] pos) (IsTup X.K Rs) L1 :=
  ej_callT call_tuple_of hm boot_tuple ha (fun Fr vs F H Q h s k => by
    obtain ⟨v, rfl, t, ys, rfl, h1, h2⟩ := all1 h
    exact ⟨t, ys, rfl, Or.inr ⟨seqT_mono s.ext h1, k _ F H (Ext.refl F) s ⟨t, ys, rfl, h1, h2⟩⟩⟩) hg (by decide) (by decide) he rfl
theorem ej_listL (hm : X.mg "list" = none) (ha : AJ X G L [e] [IsLst X.K Rs] L1) (hg : Gl X "list" := by rfl) (he : starEach [e] X.env = (false, eval e X.env) :: starEach [] X.env := by rfl) : EJ X G L (.Call (.Name "list" p) [e] [] pos) (IsLst X.K Rs) L1 :=
  ej_callT call_list_of hm boot_list ha (fun Fr vs F H Q h s k => by
    obtain ⟨v, rfl, t, ys, rfl, h1, h2⟩ := all1 h
    exact ⟨t, ys, rfl, Or.inl (seqL_mono s.ext h1), fun l hl => let ⟨a, b, c⟩ := put_lst (X := X) s hl h2; k _ _ _ a b c⟩) hg (by decide) (by decide) he rfl
theorem ej_int1 (hm : X.mg "int" = none) (ha : AJ X G L [e] [IsInt i] L1) (hg : Gl X "int" := by rfl) (he : starEach [e] X.env = (false, eval e X.env) :: starEach [] X.env := by rfl) : EJ X G L (.Call (.Name "int" p) [e] [] pos) (IsInt i) L1 :=
  ej_callT call_int1 hm boot_int ha (fun Fr vs F H Q h s k => by
    obtain ⟨v, rfl, e1⟩ := all1 h
    have e2 : v = .int i := e1
    subst e2
    exact Or.inl ⟨i, rfl, k _ F H (Ext.refl F) s rfl⟩) hg (by decide) (by decide) he rfl
theorem ej_min2 (hm : X.mg "min" = none) (ha : AJ X G L [a, b] [IsInt i, IsInt j] L1) (hc : X.calm = true := by rfl) (hg : Gl X "min" := by rfl) (he : starEach [a, b] X.env = (false, eval a X.env) :: starEach [b] X.env := by rfl) (hpl : (backTo pos (starEach [b] X.env)).any (·.1) = false := by rfl) : EJ X G L (.Call (.Name "min" p) [a, b] [] pos) (IsInt (min i j)) L1 :=
  ej_callB (call_min2 hc) hm (by decide +kernel) ha (fun Fr vs F H Q h s k => by
    obtain ⟨v, u, rfl, e1, e2⟩ := all2 h
    have e1 : v = .int i := e1
    have e2 : u = .int j := e2
    subst e1 e2
    refine ⟨i, j, rfl, k _ F H (Ext.refl F) s ?_⟩
    show V.int (if j < i then j else i) = V.int (min i j)
    congr 1; rw [Int.min_def]; split <;> split <;> omega) hg (by decide) (by decide) he hpl
theorem ej_max2 (hm : X.mg "max" = none) (ha : AJ X G L [a, b] [IsInt i, IsInt j] L1) (hc : X.calm = true := by rfl) (hg : Gl X "max" := by rfl) (he : starEach [a, b] X.env = (false, eval a X.env) :: starEach [b] X.env := by rfl) (hpl : (backTo pos (starEach [b] X.env)).any (·.1) = false := by rfl) : EJ X G L (.Call (.Name "max" p) [a, b] [] pos) (IsInt (max i j)) L1 :=
  ej_callB (call_max2 hc) hm (by decide +kernel) ha (fun Fr vs F H Q h s k => by
    obtain ⟨v, u, rfl, e1, e2⟩ := all2 h
    have e1 : v = .int i := e1
    have e2 : u = .int j := e2
    subst e1 e2
    refine ⟨i, j, rfl, k _ F H (Ext.refl F) s ?_⟩
    show V.int (if j > i then j else i) = V.int (max i j)
    congr 1; rw [Int.max_def]; split <;> split <;> omega) hg (by decide) (by decide) he hpl
theorem all_ints {F : Hp} : ∀ {ns : List Int} {vs : List V}, All (ns.map IsInt) vs F → vs = ns.map V.int
  | [], [], _ => rfl
  | n :: ns, v :: vs, h => by rw [List.map_cons, ← all_ints (ns := ns) (vs := vs) h.2]; exact congrArg (· :: vs) h.1
  | [], _ :: _, h => h.elim
  | _ :: _, [], h => h.elim
/-- the least of ints, in words -/
def leastOf : List Int → Int
  | [] => 0
  | [x] => x
  | x :: y :: r => min x (leastOf (y :: r))
theorem leastOf_eq : ∀ {ns : List Int} {m : Int}, m ∈ ns → (∀ y ∈ ns, m ≤ y) → leastOf ns = m
  | [x], m, h, _ => by
    have e : m = x := by simpa using h
    exact e.symm
  | x :: y :: r, m, h, k => by
    show min x (leastOf (y :: r)) = m
    have hx := k x List.mem_cons_self
    have hall : ∀ z ∈ y :: r, m ≤ z := fun z hz => k z (List.mem_cons_of_mem _ hz)
    have ge : m ≤ leastOf (y :: r) := by
      have aux : ∀ (l : List Int), l ≠ [] → (∀ z ∈ l, m ≤ z) → m ≤ leastOf l := by
        intro l
        induction l with
        | nil => intro h; exact absurd rfl h
        | cons a t ih =>
          intro _ hz
          cases t with
          | nil => simpa [leastOf] using hz a List.mem_cons_self
          | cons b t =>
            have h1 := hz a List.mem_cons_self
            have h2 := ih (by simp) fun z q => hz z (List.mem_cons_of_mem _ q)
            show m ≤ min a (leastOf (b :: t))
            omega
      exact aux _ (by simp) hall
    rcases List.mem_cons.mp h with e | h
    · omega
    · have := leastOf_eq h hall
      omega
theorem ej_minL {ns : List Int} (hm : X.mg "min" = none) (ha : AJ X G L [a] [IsLst X.K (ns.map IsInt)] L1) (h0 : 0 < ns.length) (hc : X.calm = true := by rfl) (hg : Gl X "min" := by rfl) (he : starEach [a] X.env = (false, eval a X.env) :: starEach [] X.env := by rfl) : EJ X G L (.Call (.Name "min" p) [a] [] pos) (IsInt (leastOf ns)) L1 :=
  ej_callB (cr_min hc) hm (by decide +kernel) ha (fun Fr vs F H Q h s k => by
    obtain ⟨v, rfl, t, ys, rfl, h1, h2⟩ := all1 h
    have e := all_ints h2
    subst e
    exact ⟨t, ns, rfl, seqL_mono s.ext h1, h0, fun m h3 h4 => k _ F H (Ext.refl F) s (by rw [leastOf_eq h3 h4]; exact rfl)⟩) hg (by decide) (by decide) he rfl

/-! ### targets -/
theorem wipe_set {σ : L2.St} {n : Nat} {v : Option V} : ∀ {ws : List Nat}, n ∈ ws → wipe (σ.set n v) ws = wipe σ ws
  | w :: ws, h => by
    unfold wipe
    by_cases hm : n ∈ ws
    · rw [wipe_set hm]
    · have e : n = w := (List.mem_cons.mp h).resolve_right hm
      subst e
      have aux : ∀ ws : List Nat, (wipe (σ.set n v) ws).set n none = (wipe σ ws).set n none := by
        intro ws
        induction ws with
        | nil => show (σ.set n v).set n none = σ.set n none; rw [List.set_set]
        | cons u us ih =>
          unfold wipe
          by_cases hu : u = n
          · subst hu; rw [List.set_set, List.set_set, ih]
          · rw [List.set_comm _ _ hu, ih, List.set_comm _ _ hu]
      exact aux ws
def wipeG (G : Gam) : List Nat → Gam
  | [] => G
  | v :: vs => (wipeG G vs).set v none
theorem Env.unset {F : Hp} : ∀ {G : Gam} {σ : L2.St} (n : Nat) {x : Option V}, Env G σ F → Env (G.set n none) (σ.set n x) F
  | [], [], _, _, _ => trivial
  | none :: G, _ :: σ, 0, _, h => h
  | some S :: G, _ :: σ, 0, _, h => h.2
  | none :: G, _ :: σ, n + 1, _, h => Env.unset (G := G) (σ := σ) n h
  | some S :: G, _ :: σ, n + 1, _, h => ⟨h.1, Env.unset n h.2⟩
  | [], _ :: _, _, _, h => h.elim
  | none :: _, [], _, _, h => h.elim
  | some _ :: _, [], _, _, h => h.elim
theorem Env.wipe {F : Hp} {σ : L2.St} (h : Env G σ F) : ∀ vs : List Nat, Env (wipeG G vs) (L2.wipe σ vs) F
  | [] => h
  | v :: vs => (Env.wipe h vs).unset v
theorem gj_name {ws : List Nat} (n : Nat) (hw : n ∈ ws := by decide) (hN : X.N.Nodup) (hi : X.N[n]? = some x := by rfl) (hx : Loc X.env.scope x := by first | exact Or.inl rfl | exact Or.inr rfl) (hf : X.fn x = true ∨ X.env.scope.names.lookup x = some .local := by first | exact .inl rfl | exact .inr rfl) : GJ X ws G (.Name x pos) R (G.set n (some R)) := fun v σ F H Q hv hE hS k =>
  WG.of (pg_name hN hi hx hf) (k _ (hE.set hv n) (wipe_set hw))
theorem gjs_nil {ws : List Nat} : GJs X ws G [] [] G := fun vs σ F H Q hv hE hS k => by
  match vs, hv with
  | [], _ => exact WGs.of pgs_nil ⟨rfl, k σ hE rfl⟩
  | _ :: _, h => exact h.elim
theorem gjs_cons {ws : List Nat} (h1 : GJ X ws G e R G1) (h2 : GJs X ws G1 es Rs G2) (hs : (assignEach (e :: es) X.env).map (·.2) = assign e X.env :: (assignEach es X.env).map (·.2) := by rfl) : GJs X ws G (e :: es) (R :: Rs) G2 := fun vs σ F H Q hv hE hS k => by
  match vs, hv with
  | [], h => exact h.elim
  | v :: vs, hv => exact WGs.of (pgs_cons wg wgs hs) ⟨v, vs, rfl, h1 v σ F H _ hv.1 hE hS fun σ1 hE1 w1 => h2 vs σ1 F H _ hv.2 hE1 hS fun σ2 hE2 w2 => k σ2 hE2 (w2.trans w1)⟩
theorem gj_tup {ws : List Nat} {k0 : Nat} (h : GJs X ws G es Rs G1) (hc : X.calm = true := by rfl) (hn : (assignEach es X.env).length = Rs.length := by rfl) (hst : (assignEach es X.env).findIdx? (·.1) = none := by rfl) : GJ X ws G (.Tuple es k0 pos) (IsTup X.K Rs) G1 := fun v σ F H Q hv hE hS k => by
  obtain ⟨a, vs, e1, h1, h2⟩ := hv
  exact WG.of (pg_tup hc wgs hn hst) ⟨a, vs, e1, seqT_mono hS h1, h2.len.symm, h vs σ F H Q h2 hE hS k⟩
/-- a, b = e -/
theorem sj_unpack {k0 : Nat} (ws : List Nat) (h : EJ X G L e (IsTup X.K Rs) L1) (hg : GJ X ws G (.Tuple es k0 pos') (IsTup X.K Rs) G1) (h2 : SJ X F0 Fr G1 L1 rest D) (hs : swapsWithSole [.Tuple es k0 pos'] e pos.line X.env = pure false := by rfl) (hw : swappedStores [.Tuple es k0 pos'] e X.env = pure none := by rfl)
    (ha : (assignEach [.Tuple es k0 pos'] X.env).map (·.2) = [assign (.Tuple es k0 pos') X.env] := by rfl) : SJ X F0 Fr G L (.Assign [.Tuple es k0 pos'] e pos :: rest) D := fun σ F H x0 hE hS =>
  WB.of (pss_cons (ps_asg we wg hs hw ha) wb) (h Fr σ F H _ hE hS fun v F1 H1 x1 s1 r1 => hg v σ F1 H1 _ r1 (hE.mono x1) s1.ext fun σ1 hE1 _ => h2 σ1 F1 H1 (x0.trans x1) hE1 s1)

/-! ### iteration -/
theorem it_lst {F0 : Hp} {t : Addr} {vs : List V} (h1 : SqL X.K F0 t vs) (h2 : All Rs vs F0) (item : Nat → MP) (hi : ∀ i R, Rs[i]? = some R → item i = R) : ItOk Rs.length item F0 (Itl X.K t) := fun i F H x y =>
  have h : SqL X.K H t vs := seqL_mono (x.trans y) h1
  ⟨fun hl => by
    obtain ⟨w, hw, _⟩ := h2.val (List.getElem?_eq_getElem hl)
    exact ⟨vs, w, h, hw⟩, fun hl => ⟨vs, h, by rw [hl, h2.len]; exact Nat.le_refl _⟩, fun u H3 hl ⟨e1, e2⟩ => by
    subst e1
    obtain ⟨w, hw, rw'⟩ := h2.val (List.getElem?_eq_getElem hl)
    have := e2 vs h
    rw [hw] at this; cases this
    refine ⟨F, Ext.refl F, fun _ s => s, ?_⟩
    rw [hi i _ (List.getElem?_eq_getElem hl)]
    exact MP.mono _ x rw'⟩
theorem it_tup {F0 : Hp} {t : Addr} {vs : List V} (h1 : SqT X.K F0 t vs) (h2 : All Rs vs F0) (item : Nat → MP) (hi : ∀ i R, Rs[i]? = some R → item i = R) : ItOk Rs.length item F0 (Itt X.K t) := fun i F H x y =>
  have h : SqT X.K H t vs := seqT_mono (x.trans y) h1
  ⟨fun hl => by
    obtain ⟨w, hw, _⟩ := h2.val (List.getElem?_eq_getElem hl)
    exact ⟨vs, w, h, hw⟩, fun hl => ⟨vs, h, by rw [hl, h2.len]; exact Nat.le_refl _⟩, fun u H3 hl ⟨e1, e2⟩ => by
    subst e1
    obtain ⟨w, hw, rw'⟩ := h2.val (List.getElem?_eq_getElem hl)
    have := e2 vs h
    rw [hw] at this; cases this
    refine ⟨F, Ext.refl F, fun _ s => s, ?_⟩
    rw [hi i _ (List.getElem?_eq_getElem hl)]
    exact MP.mono _ x rw'⟩
theorem ij_lst (item : Nat → MP) (h : EJ X G L iter (IsLst X.K Rs) L1) (hi : ∀ i R, Rs[i]? = some R → item i = R) : IJ X G L tg iter Rs.length item L1 := fun Fr σ F H Rr hE hS k =>
  WI.of (pi_list we) (h Fr σ F H _ hE hS fun v F1 H1 x1 s1 ⟨t, vs, e1, h1, h2⟩ => ⟨t, e1, ⟨vs, seqL_mono s1.ext h1⟩, k _ F1 H1 x1 s1 (it_lst h1 h2 item hi)⟩)
theorem ij_tup (item : Nat → MP) (h : EJ X G L iter (IsTup X.K Rs) L1) (hi : ∀ i R, Rs[i]? = some R → item i = R) : IJ X G L tg iter Rs.length item L1 := fun Fr σ F H Rr hE hS k =>
  WI.of (pi_tup we) (h Fr σ F H _ hE hS fun v F1 H1 x1 s1 ⟨t, vs, e1, h1, h2⟩ => ⟨t, e1, ⟨vs, seqT_mono s1.ext h1⟩, k _ F1 H1 x1 s1 (it_tup h1 h2 item hi)⟩)
theorem ij_range1 {n : Nat} (hm : X.mg "range" = none) (h : AJ X G L [a] [IsInt i] L1) (hn : i = (n : Int)) (hz : n < 2 ^ 62) (hg : Gl X "range" := by rfl) (hs : starEach [a] X.env = [(false, eval a X.env)] := by rfl) : IJ X G L tg (.Call (.Name "range" p) [a] [] pos) n (fun k => IsInt (k : Int)) L1 := fun Fr σ F H Rr hE hS k =>
  WI.of (pi_range1 hg hm wa hs) (h Fr σ F H _ hE hS fun vs F1 H1 x1 s1 r1 => by
    obtain ⟨v, rfl, e1⟩ := all1 r1
    have e2 : v = .int i := e1
    subst e2
    refine ⟨i, rfl, by omega, by omega, k _ F1 H1 x1 s1 ?_⟩
    rw [hn, Int.toNat_natCast]
    exact fun m F H _ _ => ⟨fun hl => hl, fun hl => Nat.le_of_eq hl.symm, fun x H3 _ ⟨e3, e4⟩ => ⟨F, Ext.refl F, fun _ s => by rw [e3]; exact s, by rw [e4, Int.zero_add]; exact rfl⟩⟩)
theorem ij_range2 {n : Nat} (hm : X.mg "range" = none) (h : AJ X G L [a, b] [IsInt i, IsInt j] L1) (hn : (j - i).toNat = n) (hz : -(2 ^ 62) ≤ i ∧ i < 2 ^ 62 ∧ -(2 ^ 62) ≤ j ∧ j < 2 ^ 62) (hg : Gl X "range" := by rfl) (hs : starEach [a, b] X.env = [(false, eval a X.env), (false, eval b X.env)] := by rfl) (hs2 : starEach [b] X.env = [(false, eval b X.env)] := by rfl) : IJ X G L tg (.Call (.Name "range" p) [a, b] [] pos) n (fun k => IsInt (i + k)) L1 := fun Fr σ F H Rr hE hS k =>
  WI.of (pi_range2 hg hm wa hs hs2) (h Fr σ F H _ hE hS fun vs F1 H1 x1 s1 r1 => by
    obtain ⟨v, u, rfl, e1, e2⟩ := all2 r1
    have e1 : v = .int i := e1
    have e2 : u = .int j := e2
    subst e1 e2
    refine ⟨i, j, rfl, hz, k _ F1 H1 x1 s1 ?_⟩
    rw [hn]
    exact fun m F H _ _ => ⟨fun hl => hl, fun hl => Nat.le_of_eq hl.symm, fun x H3 _ ⟨e3, e4⟩ => ⟨F, Ext.refl F, fun _ s => by rw [e3]; exact s, by rw [e4]; exact rfl⟩⟩)
theorem ij_str {z : Str} (h : EJ X G L iter (IsStr z) L1) : IJ X G L tg iter z.cps.size (fun k => IsStr ⟨#[z.cps.getD k 0]⟩) L1 := fun Fr σ F H Rr hE hS k =>
  WI.of (pi_str we) (h Fr σ F H _ hE hS fun v F1 H1 x1 s1 r1 => ⟨z, r1, k _ F1 H1 x1 s1 fun m F H _ _ => ⟨fun hl => hl, fun hl => Nat.le_of_eq hl.symm, fun x H3 hl ⟨e3, c, e4, e5⟩ => ⟨F, Ext.refl F, fun _ s => by rw [e3]; exact s, by
    have e6 : z.cps.getD m 0 = c := by rw [Array.getD_eq_getD_getElem?, e4]; rfl
    rw [e5]
    show V.str _ = V.str _
    rw [e6]⟩⟩⟩)
/-- zip of two tuples of one length -/
theorem ij_zipT {n : Nat} {k0 : Nat} {tpos : Pos} (f g : Nat → MP) (hm : X.mg "zip" = none) (h : AJ X G L [a, b] [IsTup X.K Rs, IsTup X.K Rs'] L1) (hn : n = min Rs.length Rs'.length) (hf : ∀ i R, Rs[i]? = some R → f i = R) (hg' : ∀ i R, Rs'[i]? = some R → g i = R) (hg : Gl X "zip" := by rfl)
    (hs : starEach [a, b] X.env = (false, eval a X.env) :: starEach [b] X.env := by rfl) (hpl : (backTo pos (starEach [b] X.env)).any (·.1) = false := by rfl) : IJ X G L (.Tuple es k0 tpos) (.Call (.Name "zip" p) [a, b] [] pos) n (fun k => IsTup X.K [f k, g k]) L1 := fun Fr σ F H Rr hE hS k =>
  WI.of (RZ.pi_zipA hg hm wa hs hpl) (h Fr σ F H _ hE hS fun vs F1 H1 x1 s1 r1 => by
    obtain ⟨v, u, rfl, ⟨t, xs, rfl, h1, h2⟩, t', ys, rfl, h3, h4⟩ := all2 r1
    refine ⟨t, t', xs, ys, rfl, Or.inr ⟨seqT_mono s1.ext h1, seqT_mono s1.ext h3, k _ F1 H1 x1 s1 fun m F H x y => ?_⟩⟩
    have hx : SqT X.K H t xs := seqT_mono (x.trans y) h1
    have hy : SqT X.K H t' ys := seqT_mono (x.trans y) h3
    have l1 := h2.len
    have l2 := h4.len
    refine ⟨fun hl => ⟨xs, ys, xs[m]'(by omega), ys[m]'(by omega), hx, hy, List.getElem?_eq_getElem _, List.getElem?_eq_getElem _⟩, fun hl => ⟨xs, ys, hx, hy, by omega⟩, fun w H3 hl ⟨T, u1, u2, e1, e2, e3, e4, e5⟩ => ?_⟩
    have z1 := e4 xs hx
    have z2 := e5 ys hy
    obtain ⟨R1, g1, p1⟩ := h2.get z1
    obtain ⟨R2, g2, p2⟩ := h4.get z2
    have fT := free_of y e2
    refine ⟨upd F T (.tup [u1, u2]), ext_upd fT, fun L s => by rw [e3]; exact (s.put e2).2, ?_⟩
    rw [e1]
    refine ⟨T, [u1, u2], rfl, Or.inl (Or.inl upd_same), ?_⟩
    rw [hf m R1 g1, hg' m R2 g2]
    exact ⟨R1.mono (x.trans (ext_upd fT)) p1, R2.mono (x.trans (ext_upd fT)) p2, trivial⟩)

/-! ### for -/
theorem sj_for {n : Nat} {item : Nat → MP} (ws : List Nat) (P : Nat → Prop) (Gk Gt : Nat → Gam) (Lk : Nat → List Atm) (hi : IJ X G L tg iter n item L1) (hP : P 0) (ht : ∀ i, i < n → P i → GJ X ws (Gk i) tg (item i) (Gt i))
    (hb : ∀ F1, Ext F0 F1 → ∀ i, i < n → P i → SJ X F1 Fr (Gt i) (Lk i) body ⟨AtP (P (i + 1)) F1 Fr (Gk (i + 1)) (Lk (i + 1)), D.rt, WB X rest D, AtP (P (i + 1)) F1 Fr (Gk (i + 1)) (Lk (i + 1))⟩) (h2 : P n → SJ X F0 Fr (Gk n) (Lk n) rest D)
    (h0 : Sub G (Gk 0) := by repeat (first | exact trivial | refine ⟨fun _ _ h => h, ?_⟩)) (hL : L1 = Lk 0 := by rfl) (hp : PassesOwn (model X.prog X.w) X.A X.env X.xe := by exact PassesOwn.never) (hc : X.calm = true := by rfl) (hs : ∀ x, foldedSetIterable iter X.env x = pure x := by intro _; rfl) : SJ X F0 Fr G L (.For tg iter body [] pos :: rest) D := fun σ F H x0 hE hS =>
  WB.of (pss_cons (ps_for hp hc wi wg wb hs) wb) (hi Fr σ F H _ hE hS fun J F1 H1 x1 s1 ok => by
    refine ⟨fun i m σ H => m = n - i ∧ i ≤ n ∧ P i ∧ ∃ F, Ext F1 F ∧ Env (Gk i) σ F ∧ Sep F (Lk i ++ Fr) H, ⟨n, by simp, Nat.zero_le _, hP, F1, Ext.refl F1, (hE.mono x1).sub h0, hL ▸ s1⟩, ?_⟩
    rintro i m σ H ⟨rfl, hle, hPi, F2, x2, hE2, s2⟩
    obtain ⟨g1, g2, g3⟩ := ok i F2 H x2 s2.ext
    by_cases hlt : i < n
    · refine .inr ⟨g1 hlt, AtP (P (i + 1)) F1 Fr (Gk (i + 1)) (Lk (i + 1)), fun σ' H' ⟨y2, F, y1, y3, y4⟩ => ⟨n - (i + 1), by omega, rfl, hlt, y2, F, y1, y3, y4⟩, fun x H3 hy => ?_⟩
      obtain ⟨F3, x3, t3, r3⟩ := g3 x H3 hlt hy
      exact ht i hlt hPi x σ F3 H3 _ r3 (hE2.mono x3) (t3 _ s2).ext fun σ1 hE1 _ => hb F1 (x0.trans x1) i hlt hPi σ1 F3 H3 (x2.trans x3) hE1 (t3 _ s2)
    · have e : i = n := by omega
      subst e
      exact .inl ⟨g2 rfl, h2 hPi σ F2 H ((x0.trans x1).trans x2) hE2 s2⟩)
/-- while, with a measure; ι tells the states at the head -/
theorem sj_while {ι : Type} (μ : ι → Nat) (P : ι → Prop) (Gk : ι → Gam) (Lk : ι → List Atm) (t : ι → Bool) (Lc : ι → List Atm) (z : ι) (hP : P z) (hc : ∀ y, P y → TJ X (Gk y) (Lk y) c (t y) (Lc y))
    (hb : ∀ F1, Ext F0 F1 → ∀ y, P y → t y = true → SJ X F1 Fr (Gk y) (Lc y) body ⟨fun σ H => ∃ y', μ y' < μ y ∧ AtP (P y') F1 Fr (Gk y') (Lk y') σ H, D.rt, WB X rest D, fun σ H => ∃ y', μ y' < μ y ∧ AtP (P y') F1 Fr (Gk y') (Lk y') σ H⟩)
    (h2 : ∀ y, P y → t y = false → SJ X F0 Fr (Gk y) (Lc y) rest D) (h0 : Sub G (Gk z) := by repeat (first | exact trivial | refine ⟨fun _ _ h => h, ?_⟩)) (hL : L = Lk z := by rfl) (hp : PassesOwn (model X.prog X.w) X.A X.env X.xe := by exact PassesOwn.never) : SJ X F0 Fr G L (.While c body [] pos :: rest) D := fun σ F H x0 hE hS =>
  WB.of (pss_cons (ps_while hp wt wb) wb) (by
    refine ⟨fun m σ H => ∃ y, m = μ y ∧ P y ∧ ∃ F1, Ext F F1 ∧ Env (Gk y) σ F1 ∧ Sep F1 (Lk y ++ Fr) H, ⟨μ z, z, rfl, hP, F, Ext.refl F, hE.sub h0, hL ▸ hS⟩, ?_⟩
    rintro m σ H ⟨y, rfl, hy, F1, x1, hE1, s1⟩
    refine hc y hy Fr σ F1 H _ hE1 s1 fun F2 H2 x2 s2 => ?_
    cases e : t y with
    | true => exact ⟨fun σ H => ∃ y', μ y' < μ y ∧ AtP (P y') F Fr (Gk y') (Lk y') σ H, fun σ' H' ⟨y', hm, hq, F3, x3, hE3, s3⟩ => ⟨μ y', hm, y', rfl, hq, F3, x3, hE3, s3⟩, hb F x0 y hy e σ F2 H2 (x1.trans x2) (hE1.mono x2) s2⟩
    | false => exact h2 y hy e σ F2 H2 (x0.trans (x1.trans x2)) (hE1.mono x2) s2)
theorem sj_turnW {ι : Type} {μ : ι → Nat} {P : ι → Prop} {Gk : ι → Gam} {Lk : ι → List Atm} {m : Nat} {bk : L2.St → Hp → Prop} {rt : VK} {ct : L2.St → Hp → Prop} (y : ι) (hm : μ y < m) (hp : P y) (hs : Sub G (Gk y) := by repeat (first | exact trivial | refine ⟨fun _ _ h => h, ?_⟩)) (hl : L = Lk y := by rfl) : SJ X F0 Fr G L [] ⟨fun σ H => ∃ y', μ y' < m ∧ AtP (P y') F0 Fr (Gk y') (Lk y') σ H, rt, bk, ct⟩ :=
  sj_nil fun σ H ⟨F, x, hE, hS⟩ => ⟨y, hm, hp, F, x, hE.sub hs, hl ▸ hS⟩

/-! ### comprehensions -/
structure Bk where
  s : Shared
  H : Hp
  C : Addr
  cl : List (Str × Addr)
  fp : List Addr
abbrev bk (X : Cx) (scope : Scope) (b : Bk) : Cx := X.blk b.s b.H scope (compEnvC scope b.cl b.C X.env) b.fp
/-- what the comprehension has gathered before turn i -/
def accOf (t : Nat → Bool) (R : Nat → MP) : Nat → List MP
  | 0 => []
  | i + 1 => if t i = true then accOf t R i ++ [R i] else accOf t R i
theorem accOf_len {t : Nat → Bool} {R : Nat → MP} : ∀ i, (accOf t R i).length ≤ i
  | 0 => Nat.le_refl _
  | i + 1 => by
    have := accOf_len (t := t) (R := R) i
    unfold accOf
    split
    · rw [List.length_append]; show _ + 1 ≤ _; omega
    · omega
theorem accOf_all {R : Nat → MP} : ∀ n, accOf (fun _ => true) R n = (List.range n).map R
  | 0 => rfl
  | n + 1 => by
    show (if true = true then accOf (fun _ => true) R n ++ [R n] else accOf (fun _ => true) R n) = _
    rw [if_pos rfl, accOf_all n, List.range_succ, List.map_append]; rfl
/-- the tests of a clause -/
def TsJ (X : Cx) (G : Gam) (L : List Atm) (ifs : List Expr) (b : Bool) : Prop :=
  ∀ (Fr : List Atm) (σ : L2.St) (F H : Hp) (pins : List (Addr × Obj)) (s : Shared) (Q : Bool → Hp → Prop), Env G σ F → Sep F (L ++ Fr) H → (∀ F' H', Ext F F' → Sep F' (L ++ Fr) H' → Q b H') → Inv X pins σ H s →
    wpAny (model X.prog X.w) X.A (forIn ifs true fun c r => if r = true then do let ok ← isTrue c X.env (eval c X.env); pure (ForInStep.yield ok) else pure (ForInStep.yield r)) (TP X pins σ Q) X.xe s
theorem tsj_nil : TsJ X G L [] true := fun Fr σ F H pins s Q hE hS k I => pts_nil.run pins s σ H Q I (k F H (Ext.refl F) hS)
theorem tsj_one {t : Bool} (h : TJ X G L c t L) : TsJ X G L [c] t := fun Fr σ F H pins s Q hE hS k I => (pts_one wt).run pins s σ H Q I (h Fr σ F H Q hE hS k)
def WTs (X : Cx) (ifs : List Expr) : TT := fun σ H Q => ∀ pins s, Inv X pins σ H s → wpAny (model X.prog X.w) X.A (forIn ifs true fun c r => if r = true then do let ok ← isTrue c X.env (eval c X.env); pure (ForInStep.yield ok) else pure (ForInStep.yield r)) (TP X pins σ Q) X.xe s
/-- the block's readings, at once for every block -/
def BE (X : Cx) (scope : Scope) (e : Expr) : TE := fun σ H Q => ∀ b, WE (bk X scope b) e σ H Q
def BT (X : Cx) (scope : Scope) (ifs : List Expr) : TT := fun σ H Q => ∀ b, WTs (bk X scope b) ifs σ H Q
def BG (X : Cx) (scope : Scope) (tg : Expr) : TG := fun v σ H Q => ∀ b, WG (bk X scope b) tg v σ H Q
/-- n items, n not known ahead -/
def IX {κ : Type} (X : Cx) (G : Gam) (L : List Atm) (tg iter : Expr) (n : κ → Nat) (item : κ → Nat → MP) (L' : κ → List Atm) : Prop :=
  ∀ (Fr : List Atm) (σ : L2.St) (F H : Hp) (R : It → Hp → Prop), Env G σ F → Sep F (L ++ Fr) H → (∀ y J F' H', Ext F F' → Sep F' (L' y ++ Fr) H' → ItOk (n y) (item y) F' J → R J H') → WI X tg iter σ H R
theorem lc_runX {κ : Type} {scope : Scope} {elt : Expr} {ifs : List Expr} {n0 : κ → Nat} {item0 : κ → Nat → MP} {vs : List Nat} {L0 : κ → List Atm} (t0 : κ → Nat → Bool) (Rk0 : κ → Nat → MP) (Gt0 : κ → Nat → Gam) (Lk0 : κ → Nat → List Atm) (hi : IX X G L tg iter n0 item0 L0) (hL0 : ∀ y, L0 y = Lk0 y 0)
    (hg0 : ∀ y b i, i < n0 y → GJ (bk X scope b) vs (wipeG G vs) tg (item0 y i) (Gt0 y i)) (ht0 : ∀ y b i, i < n0 y → TsJ (bk X scope b) (Gt0 y i) (Lk0 y i) ifs (t0 y i))
    (he0 : ∀ y b i, i < n0 y → t0 y i = true → EJ (bk X scope b) (Gt0 y i) (Lk0 y i) elt (Rk0 y i) (Lk0 y (i + 1))) (hf0 : ∀ y i, i < n0 y → t0 y i = false → Lk0 y (i + 1) = Lk0 y i) (hz0 : ∀ y, n0 y ≤ 100000)
    (Fr : List Atm) (σ : L2.St) (F H : Hp) (Q : VK) (hE : Env G σ F) (hS : Sep F (L ++ Fr) H) (k0 : ∀ y q v F' H', Ext F F' → Sep F' ((AtL q (accOf (t0 y) (Rk0 y) (n0 y)) :: Lk0 y (n0 y)) ++ Fr) H' → (IsAddr q).p v F' → Q v H') :
    tLc (WI X tg iter) (BG X scope tg) (BT X scope ifs) (BE X scope elt) vs σ H Q := by
  refine hi Fr σ F H _ hE hS fun y0 J F1 H1 x1 s1 ok Dn hD => ?_
  have hL := hL0 y0
  have hg := hg0 y0
  have ht := ht0 y0
  have he := he0 y0
  have hf := hf0 y0
  have hz := hz0 y0
  have k := k0 y0
  generalize t0 y0 = t at *
  generalize Rk0 y0 = Rk at *
  generalize Gt0 y0 = Gt at *
  generalize Lk0 y0 = Lk at *
  generalize n0 y0 = n at *
  generalize item0 y0 = item at *
  generalize L0 y0 = L1 at *
  refine ⟨fun i m H => m = n - i ∧ i ≤ n ∧ ∃ F2, Ext F1 F2 ∧ Sep F2 ((AtL Dn (accOf t Rk i) :: Lk i) ++ Fr) H, ⟨n, by simp, Nat.zero_le _, F1, Ext.refl F1, own_lst (hL ▸ s1) hD trivial⟩, ?_⟩
  rintro i m H2 ⟨rfl, hle, F2, x2, s2⟩
  obtain ⟨g1, g2, g3⟩ := ok i F2 H2 x2 s2.ext
  by_cases hlt : i < n
  · refine .inr ⟨g1 hlt, fun H' => ∃ F3, Ext F1 F3 ∧ Sep F3 ((AtL Dn (accOf t Rk (i + 1)) :: Lk (i + 1)) ++ Fr) H', fun H' ⟨F3, y1, y2⟩ => ⟨n - (i + 1), by omega, rfl, hlt, F3, y1, y2⟩, fun x H3 hy => ?_⟩
    obtain ⟨F3, x3, t3, r3⟩ := g3 x H3 hlt hy
    have s3 := t3 _ s2
    have hE3 : Env (wipeG G vs) (L2.wipe σ vs) F3 := ((hE.mono x1).mono (x2.trans x3)).wipe vs
    refine fun b => hg b i hlt x (L2.wipe σ vs) F3 H3 _ r3 hE3 s3.ext fun σ1 hE1 w1 => ⟨by
      have aux : ∀ ws : List Nat, L2.wipe (L2.wipe σ ws) ws = L2.wipe σ ws := by
        intro ws
        refine List.ext_getElem? fun m => ?_
        have hw : ∀ (τ : L2.St) (ws : List Nat), (L2.wipe τ ws)[m]? = if m ∈ ws then (if m < τ.length then some none else none) else τ[m]? := by
          intro τ ws
          induction ws with
          | nil => simp [L2.wipe]
          | cons u us ih =>
            unfold L2.wipe
            rw [List.getElem?_set, ih, L2.wipe_length]
            by_cases hu : u = m
            · subst hu; simp
            · rw [if_neg hu]
              have : m ∈ u :: us ↔ m ∈ us := by simp [List.mem_cons, Ne.symm hu]
              simp only [this]
        rw [hw, hw, L2.wipe_length]
        split <;> rfl
      rw [w1, aux], ?_⟩
    refine fun b pins s I => ht b i hlt (AtL Dn (accOf t Rk i) :: Fr) σ1 F3 H3 pins s _ hE1 s3.mid (fun F4 H4 x4 s4 => ?_) I
    cases e : t i with
    | true =>
      rw [if_pos rfl]
      refine fun b => he b i hlt e (AtL Dn (accOf t Rk i) :: Fr) σ1 F4 H4 _ (hE1.mono x4) s4 fun v F5 H5 x5 s5 r5 => ?_
      have s6 := s5.unmid
      obtain ⟨acc, h1, h2, h3⟩ := Sep.lst (k := 0) (L := AtL Dn (accOf t Rk i) :: Lk (i + 1)) s6 rfl
      refine ⟨acc, h1, ?_, F5, x2.trans (x3.trans (x4.trans x5)), ?_⟩
      · rw [← h2.len]
        exact small_lt (Nat.lt_of_le_of_lt (accOf_len i) (Nat.lt_of_lt_of_le hlt hz))
      · have := h3 (accOf t Rk (i + 1)) (acc ++ [v]) (by
          show All (if t i = true then _ else _) _ _
          rw [if_pos e]
          exact h2.append ⟨r5, trivial⟩)
        exact this
    | false =>
      rw [if_neg Bool.false_ne_true]
      refine ⟨F4, x2.trans (x3.trans x4), ?_⟩
      have s6 := s4.unmid
      rw [hf i hlt e, show accOf t Rk (i + 1) = accOf t Rk i from if_neg (by rw [e]; exact Bool.false_ne_true)]
      exact s6
  · have e : i = n := by omega
    subst e
    exact .inl ⟨g2 rfl, k Dn _ F2 H2 (x1.trans x2) s2 rfl⟩
theorem lc_run {scope : Scope} {elt : Expr} {ifs : List Expr} {n : Nat} {item : Nat → MP} {vs : List Nat} (t : Nat → Bool) (Rk : Nat → MP) (Gt : Nat → Gam) (Lk : Nat → List Atm) (hi : IJ X G L tg iter n item L1) (hL : L1 = Lk 0)
    (hg : ∀ b i, i < n → GJ (bk X scope b) vs (wipeG G vs) tg (item i) (Gt i)) (ht : ∀ b i, i < n → TsJ (bk X scope b) (Gt i) (Lk i) ifs (t i))
    (he : ∀ b i, i < n → t i = true → EJ (bk X scope b) (Gt i) (Lk i) elt (Rk i) (Lk (i + 1))) (hf : ∀ i, i < n → t i = false → Lk (i + 1) = Lk i) (hz : n ≤ 100000)
    (Fr : List Atm) (σ : L2.St) (F H : Hp) (Q : VK) (hE : Env G σ F) (hS : Sep F (L ++ Fr) H) (k : ∀ q v F' H', Ext F F' → Sep F' ((AtL q (accOf t Rk n) :: Lk n) ++ Fr) H' → (IsAddr q).p v F' → Q v H') :
    tLc (WI X tg iter) (BG X scope tg) (BT X scope ifs) (BE X scope elt) vs σ H Q :=
  lc_runX (κ := Unit) (n0 := fun _ => n) (item0 := fun _ => item) (L0 := fun _ => L1) (fun _ => t) (fun _ => Rk) (fun _ => Gt) (fun _ => Lk) (fun Fr σ F H R a b c => hi Fr σ F H R a b (c ())) (fun _ => hL) (fun _ => hg) (fun _ => ht) (fun _ => he) (fun _ => hf) (fun _ => hz) Fr σ F H Q hE hS fun _ => k
/-- [elt for tg in iter if ..] as a value: an owned list -/
theorem ex_lc {scope : Scope} {elt : Expr} {ifs : List Expr} {n : Nat} {item : Nat → MP} (own : List (Str × Nat)) (t : Nat → Bool) (Rk : Nat → MP) (Gt : Nat → Gam) (Lk : Nat → List Atm) (hN : X.N.Nodup) (ok : BlkOk X.N X.env.scope scope own) (hi : IJ X G L tg iter n item L1) (hL : L1 = Lk 0)
    (hg : ∀ b i, i < n → GJ (bk X scope b) (own.map (·.2)) (wipeG G (own.map (·.2))) tg (item i) (Gt i)) (ht : ∀ b i, i < n → TsJ (bk X scope b) (Gt i) (Lk i) ifs (t i))
    (he : ∀ b i, i < n → t i = true → EJ (bk X scope b) (Gt i) (Lk i) elt (Rk i) (Lk (i + 1))) (hf : ∀ i, i < n → t i = false → Lk (i + 1) = Lk i) (hz : n ≤ 100000) (hc : X.calm = true := by rfl) (hs : ∀ x, foldedSetIterable iter X.env x = pure x := by intro _; rfl) :
    EX X G L (.ListComp elt [⟨tg, iter, ifs, 0⟩] scope pos) (fun q => IsAddr q) (fun q => AtL q (accOf t Rk n) :: Lk n) := fun Fr σ F H Q hE hS k =>
  WE.of (pe_lc hc hN wi ok (fun s H C cl fp => ⟨fun pins s' σ H' v u Q I r h => h ⟨s, H, C, cl, fp⟩ pins s' u I r⟩) (fun s H C cl fp => ⟨fun pins s' σ H' Q I h => h ⟨s, H, C, cl, fp⟩ pins s' I⟩) (fun s H C cl fp => ⟨fun pins s' σ H' Q I h => h ⟨s, H, C, cl, fp⟩ pins s' I⟩) hs)
    (lc_run t Rk Gt Lk hi hL hg ht he hf hz Fr σ F H Q hE hS k)
/-- name = [..] on one line -/
theorem sj_setLc {scope : Scope} {x : Str} {elt : Expr} {ifs : List Expr} {n : Nat} {item : Nat → MP} (m : Nat) (own : List (Str × Nat)) (t : Nat → Bool) (Rk : Nat → MP) (Gt : Nat → Gam) (Lk : Nat → List Atm) (hN : X.N.Nodup) (ok : BlkOk X.N X.env.scope scope own) (hi : IJ X G L tg iter n item L1) (hL : L1 = Lk 0)
    (hg : ∀ b i, i < n → GJ (bk X scope b) (own.map (·.2)) (wipeG G (own.map (·.2))) tg (item i) (Gt i)) (ht : ∀ b i, i < n → TsJ (bk X scope b) (Gt i) (Lk i) ifs (t i))
    (he : ∀ b i, i < n → t i = true → EJ (bk X scope b) (Gt i) (Lk i) elt (Rk i) (Lk (i + 1))) (hf : ∀ i, i < n → t i = false → Lk (i + 1) = Lk i) (hz : n ≤ 100000)
    (h2 : ∀ q, SJ X F0 Fr (G.set m (some (IsAddr q))) (AtL q (accOf t Rk n) :: Lk n) rest D) (hm : X.N[m]? = some x := by rfl) (hl : X.env.scope.names.lookup x = some .local := by rfl)
    (hsw : swapsWith (.ListComp elt [⟨tg, iter, ifs, 0⟩] scope p) (some (.Name x pos')) pos.line X.env = pure true := by exact sw_true rfl rfl rfl rfl) (hc : X.calm = true := by rfl) (hs : ∀ x, foldedSetIterable iter X.env x = pure x := by intro _; rfl) :
    SJ X F0 Fr G L (.Assign [.Name x pos'] (.ListComp elt [⟨tg, iter, ifs, 0⟩] scope p) pos :: rest) D := fun σ F H x0 hE hS =>
  WB.of (pss_cons (ps_setLc hc hN hm hl hsw wi ok (fun s H C cl fp => ⟨fun pins s' σ H' v u Q I r h => h ⟨s, H, C, cl, fp⟩ pins s' u I r⟩) (fun s H C cl fp => ⟨fun pins s' σ H' Q I h => h ⟨s, H, C, cl, fp⟩ pins s' I⟩) (fun s H C cl fp => ⟨fun pins s' σ H' Q I h => h ⟨s, H, C, cl, fp⟩ pins s' I⟩) hs) wb)
    (lc_run t Rk Gt Lk hi hL hg ht he hf hz Fr σ F H _ hE hS fun q v F1 H1 x1 s1 r1 => h2 q _ F1 H1 (x0.trans x1) ((hE.mono x1).set r1 m) s1)
theorem ex_lcX {κ : Type} {scope : Scope} {elt : Expr} {ifs : List Expr} {n : κ → Nat} {item : κ → Nat → MP} {L0 : κ → List Atm} (own : List (Str × Nat)) (t : κ → Nat → Bool) (Rk : κ → Nat → MP) (Gt : κ → Nat → Gam) (Lk : κ → Nat → List Atm) (hN : X.N.Nodup) (ok : BlkOk X.N X.env.scope scope own) (hi : IX X G L tg iter n item L0) (hL : ∀ y, L0 y = Lk y 0)
    (hg : ∀ y b i, i < n y → GJ (bk X scope b) (own.map (·.2)) (wipeG G (own.map (·.2))) tg (item y i) (Gt y i)) (ht : ∀ y b i, i < n y → TsJ (bk X scope b) (Gt y i) (Lk y i) ifs (t y i))
    (he : ∀ y b i, i < n y → t y i = true → EJ (bk X scope b) (Gt y i) (Lk y i) elt (Rk y i) (Lk y (i + 1))) (hf : ∀ y i, i < n y → t y i = false → Lk y (i + 1) = Lk y i) (hz : ∀ y, n y ≤ 100000) (hc : X.calm = true := by rfl) (hs : ∀ x, foldedSetIterable iter X.env x = pure x := by intro _; rfl) :
    EX X G L (.ListComp elt [⟨tg, iter, ifs, 0⟩] scope pos) (fun z : κ × Addr => IsAddr z.2) (fun z => AtL z.2 (accOf (t z.1) (Rk z.1) (n z.1)) :: Lk z.1 (n z.1)) := fun Fr σ F H Q hE hS k =>
  WE.of (pe_lc hc hN wi ok (fun s H C cl fp => ⟨fun pins s' σ H' v u Q I r h => h ⟨s, H, C, cl, fp⟩ pins s' u I r⟩) (fun s H C cl fp => ⟨fun pins s' σ H' Q I h => h ⟨s, H, C, cl, fp⟩ pins s' I⟩) (fun s H C cl fp => ⟨fun pins s' σ H' Q I h => h ⟨s, H, C, cl, fp⟩ pins s' I⟩) hs)
    (lc_runX t Rk Gt Lk hi hL hg ht he hf hz Fr σ F H Q hE hS fun y q => k (y, q))
theorem sj_setLcX {κ : Type} {scope : Scope} {x : Str} {elt : Expr} {ifs : List Expr} {n : κ → Nat} {item : κ → Nat → MP} {L0 : κ → List Atm} (m : Nat) (own : List (Str × Nat)) (t : κ → Nat → Bool) (Rk : κ → Nat → MP) (Gt : κ → Nat → Gam) (Lk : κ → Nat → List Atm) (hN : X.N.Nodup) (ok : BlkOk X.N X.env.scope scope own) (hi : IX X G L tg iter n item L0) (hL : ∀ y, L0 y = Lk y 0)
    (hg : ∀ y b i, i < n y → GJ (bk X scope b) (own.map (·.2)) (wipeG G (own.map (·.2))) tg (item y i) (Gt y i)) (ht : ∀ y b i, i < n y → TsJ (bk X scope b) (Gt y i) (Lk y i) ifs (t y i))
    (he : ∀ y b i, i < n y → t y i = true → EJ (bk X scope b) (Gt y i) (Lk y i) elt (Rk y i) (Lk y (i + 1))) (hf : ∀ y i, i < n y → t y i = false → Lk y (i + 1) = Lk y i) (hz : ∀ y, n y ≤ 100000)
    (h2 : ∀ y q, SJ X F0 Fr (G.set m (some (IsAddr q))) (AtL q (accOf (t y) (Rk y) (n y)) :: Lk y (n y)) rest D) (hm : X.N[m]? = some x := by rfl) (hl : X.env.scope.names.lookup x = some .local := by rfl)
    (hsw : swapsWith (.ListComp elt [⟨tg, iter, ifs, 0⟩] scope p) (some (.Name x pos')) pos.line X.env = pure true := by exact sw_true rfl rfl rfl rfl) (hc : X.calm = true := by rfl) (hs : ∀ x, foldedSetIterable iter X.env x = pure x := by intro _; rfl) :
    SJ X F0 Fr G L (.Assign [.Name x pos'] (.ListComp elt [⟨tg, iter, ifs, 0⟩] scope p) pos :: rest) D := fun σ F H x0 hE hS =>
  WB.of (pss_cons (ps_setLc hc hN hm hl hsw wi ok (fun s H C cl fp => ⟨fun pins s' σ H' v u Q I r h => h ⟨s, H, C, cl, fp⟩ pins s' u I r⟩) (fun s H C cl fp => ⟨fun pins s' σ H' Q I h => h ⟨s, H, C, cl, fp⟩ pins s' I⟩) (fun s H C cl fp => ⟨fun pins s' σ H' Q I h => h ⟨s, H, C, cl, fp⟩ pins s' I⟩) hs) wb)
    (lc_runX t Rk Gt Lk hi hL hg ht he hf hz Fr σ F H _ hE hS fun y q v F1 H1 x1 s1 r1 => h2 y q _ F1 H1 (x0.trans x1) ((hE.mono x1).set r1 m) s1)
end
end J
/-! J5: what a def promises, calls, new instances, properties, kinds. -/
namespace J
open PySem PySem.Spec PyProof.Rows L2

/-! ### what a def promises -/
structure FS (ι κ : Type) where
  args : ι → List MP
  own : ι → List Atm := fun _ => []
  res : ι → κ → MP
  out : ι → κ → List Atm := fun _ _ => []
  pre : ι → Prop := fun _ => True
/-- what an __init__ promises of the new instance (args: self left out) -/
structure IS (ι : Type) where
  args : ι → List MP
  ns : List Str
  flds : ι → List MP
  pre : ι → Prop := fun _ => True
def IS.fs {ι : Type} (S : IS ι) (C : Addr) : FS (Addr × ι) Unit where
  args := fun z => IsAddr z.1 :: S.args z.2
  own := fun z => [AtI z.1 C [] []]
  res := fun _ _ => IsNone
  out := fun z _ => [AtI z.1 C S.ns (S.flds z.2)]
  pre := fun z => S.pre z.2
def spJ {ι κ : Type} (S : FS ι κ) : Sp := fun vs H Q _ => ∃ (x : ι) (F : Hp) (Fr : List Atm), S.pre x ∧ All (S.args x) vs F ∧ Sep F (S.own x ++ Fr) H ∧ ∀ y v F' H', Ext F F' → Sep F' (S.out x y ++ Fr) H' → (S.res x y).p v F' → Q v H'
structure Wd where
  P : Program
  w : World
  K : PySem.W.Frag
  mg : Str → Option Value
  base : Heap
structure Rn where
  f : Addr
  cd : Value
  A : Around
  outer : List PySem.Env
  s : Shared
  H : Hp
  E : XK
abbrev cx (W : Wd) (N : List Str) (qual : Str) (sc : Scope) (r : Rn) : Cx := (cxOf L2.CX0 W.P W.w W.K W.mg W.base N qual sc r.f r.cd r.A r.outer r.s r.H r.E).nox
def entry (N : List Str) (Rs : List MP) : Gam := Rs.map some ++ List.replicate (N.length - Rs.length) none
theorem env_none : ∀ (n : Nat) {F : Hp}, Env (List.replicate n none) (List.replicate n none) F
  | 0, _ => trivial
  | n + 1, F => env_none n (F := F)
theorem env_start {F : Hp} {m : Nat} : ∀ {Rs : List MP} {vs : List V}, All Rs vs F → Env (Rs.map some ++ List.replicate m none) (vs.map some ++ List.replicate m none) F
  | [], [], _ => env_none m
  | R :: Rs, v :: vs, h => ⟨⟨v, rfl, h.1⟩, env_start h.2⟩
  | [], _ :: _, h => h.elim
  | _ :: _, [], h => h.elim
abbrev FnK (W : Wd) (k : Nat) (f : Addr) (fd : FuncData) (ps : List Str) (sp : Sp) : Prop := FnOk W.P W.w W.K W.mg W.base L2.CX0 k f fd ps sp
/-- a def by its body -/
theorem fn_ok {ι κ : Type} (S : FS ι κ) {W : Wd} {x qual : Str} {params : Arguments} {body : List Stmt} {scope : Scope} {dvs : List V} {kws : List (Str × V)} {f : Addr} {fd : FuncData} {N ps : List Str} {k : Nat}
    (Fn : FunD W.K x qual params body scope dvs kws f fd) (Sc : FnScope N ps scope) (len : ∀ z, (S.args z).length = ps.length)
    (hb : ∀ r : Rn, Room k (cx W N qual scope r).A → ∀ z F0 Fr, S.pre z → SJ (cx W N qual scope r) F0 Fr (entry N (S.args z)) (S.own z) body ⟨fun _ H => Rt F0 Fr (S.res z) (S.out z) .non H, Rt F0 Fr (S.res z) (S.out z), fun _ _ => False, fun _ _ => False⟩) :
    FnK W (k + 1) f fd ps (spJ S) := by
  refine Fn.ok Sc (fun vs H Q E ⟨z, F, Fr, _, h, _⟩ => by rw [← h.len, len]) (fun cdv A outer s H vs Q E hr ⟨z, F, Fr, hp, ha, hs, q⟩ => ?_)
  refine ⟨_, PSs.nox wb, ?_⟩
  refine WB.mono (hb ⟨f, cdv, A, outer, s, H, E⟩ hr z F Fr hp (L2.start N vs) F H (Ext.refl F) ?_ hs) (fun _ H1 ⟨y, F1, x1, s1, r1⟩ => q y _ F1 H1 x1 s1 r1) (fun v H1 ⟨y, F1, x1, s1, r1⟩ => q y v F1 H1 x1 s1 r1) (fun _ _ z => z.elim) (fun _ _ z => z.elim)
  unfold entry L2.start
  rw [ha.len]
  exact env_start ha

/-! ### what may be called -/
/-- a def of the module -/
structure GF (W : Wd) (k : Nat) (x : Str) (sp : Sp) : Prop where
  ex : ∃ (f : Addr) (fd : FuncData) (ps : List Str), FnK W k f fd ps sp ∧ W.mg x = some (.ref f) ∧ PySem.W.keepIn W.K (.ref f) = true ∧ Binds W.K fd ps []
/-- a method -/
structure GM (W : Wd) (k : Nat) (C : Addr) (m : Str) (sp : Sp) : Prop where
  ex : ∃ (f : Addr) (fd : FuncData) (ps : List Str), Cls W.K C ∧ Meth W.K C m f ∧ FnK W k f fd ps sp ∧ Binds W.K fd ps []
/-- a property -/
structure GP (W : Wd) (k : Nat) (C : Addr) (m : Str) (sp : Sp) : Prop where
  ex : ∃ (p g : Addr) (fd : FuncData) (ps : List Str), Cls W.K C ∧ PropOf W.K C m p g ∧ FnK W k g fd ps sp ∧ Binds W.K fd ps []
/-- a class with its __init__ -/
structure GC (W : Wd) (k : Nat) (x : Str) (C : Addr) (sp : Sp) : Prop where
  ex : ∃ (f : Addr) (fd : FuncData) (ps : List Str), Mk W.K C f ∧ FnK W k f fd ps sp ∧ W.mg x = some (.ref C) ∧ Binds W.K fd ps []
/-- .. made with keywords: n values (self counted), the keywords' names, how they come to the parameters -/
structure GCK (W : Wd) (k : Nat) (x : Str) (C : Addr) (sp : Sp) (n : Nat) (ks : List Str) (gV : List V → List V → List V) : Prop where
  ex : ∃ (f : Addr) (fd : FuncData) (ps : List Str) (g : List Value → List Value → List Value), Mk W.K C f ∧ FnK W k f fd ps sp ∧ W.mg x = some (.ref C) ∧ KBn W.K fd ps (n + 1) ks g gV
structure Mk0 (K : PySem.W.Frag) (C : Addr) : Prop where
  makes : PySem.W.makesIn K C = true
  init : PySem.W.findIn K (.ref C) "__init__" = some (some (.builtin "object.__init__"))
  kp : PySem.W.keepIn K (.ref C) = true

/-- a new chunk -/
theorem Sep.ownC {F H H' h1 : Hp} {L : List Atm} {P : Atm} (s : Sep F L H) (hp : P.p F h1) (hn : ∀ a, H a = none ∨ h1 a = none) (h1' : ∀ a o, h1 a = some o → H' a = some o) (hk : ∀ a, h1 a = none → H' a = H a) : Sep F (P :: L) H' := by
  obtain ⟨O, s1, d, e, eo⟩ := s
  have nn : ∀ a o, H a = some o → h1 a = none := fun a o z => (hn a).resolve_left (by rw [z]; simp)
  refine ⟨jn h1 O, .cons hp s1 fun a => ?_, fun a => ?_, fun a u ha => ?_, fun a u ha => ?_⟩
  · cases z : O a with
    | none => exact Or.inr rfl
    | some o => exact Or.inl (nn a o (eo a o z))
  · rcases d a with x | x
    · exact Or.inl x
    · cases z : F a with
      | none => exact Or.inl rfl
      | some o => exact Or.inr (jn_none.mpr ⟨nn a o (e a o z), x⟩)
  · rw [hk a (nn a u (e a u ha))]; exact e a u ha
  · rcases jn_some ha with x | ⟨x, y⟩
    · exact h1' a u x
    · rw [hk a x]; exact eo a u y
theorem Sep.ownI {F H : Hp} {L : List Atm} {x dx C : Addr} (s : Sep F L H) (hx : H x = none) (hd : H dx = none) (ne : dx ≠ x) : Sep F (AtI x C [] [] :: L) (upd (upd H dx (.own x)) x (.ins C dx [])) := by
  refine s.ownC (h1 := jn (one x (.ins C dx [])) (one dx (.own x))) ⟨dx, [], ne, rfl, rfl, trivial⟩ (fun a => ?_) (fun a o ha => ?_) fun a ha => ?_
  · by_cases e : a = x
    · subst e; exact Or.inl hx
    · by_cases e2 : a = dx
      · subst e2; exact Or.inl hd
      · exact Or.inr (jn_none.mpr ⟨one_ne e, one_ne e2⟩)
  · rcases jn_some ha with z | ⟨z, y⟩
    · by_cases e : a = x
      · subst e; rw [one_same] at z; rw [upd_same]; exact z
      · rw [one_ne e] at z; cases z
    · have e : a ≠ x := fun e => by rw [e, one_same] at z; cases z
      rw [upd_ne e]
      by_cases e2 : a = dx
      · subst e2; rw [one_same] at y; rw [upd_same]; exact y
      · rw [one_ne e2] at y; cases y
  · rw [jn_none] at ha
    rw [upd_ne (fun e => by rw [e, one_same] at ha; cases ha.1), upd_ne (fun e => by rw [e, one_same] at ha; cases ha.2)]

section
variable {X : Cx} {W : Wd} {G : Gam} {L L1 L2' L3 Lf : List Atm} {e o a b c : Expr} {es : List Expr} {kws : List Keyword} {R Ra Rb Rc Ro : MP} {Rs As Ks : List MP} {pos pos' apos p : Pos} {F0 : Hp} {Fr : List Atm} {D : Ends} {ss rest : List Stmt} {C q : Addr} {x m f : Str} {ns : List Str} {k j : Nat} {ι κ : Type}

/-- the receiver is an instance that has no attribute of the name -/
def Recv (R : MP) (L : List Atm) (C : Addr) (m : Str) : Prop := ∀ Fr v F H, R.p v F → Sep F (L ++ Fr) H → ∃ a dx fs, v = .ref a ∧ H a = some (.ins C dx fs) ∧ fs.lookup m = none
theorem recv_ins (h : m ∉ ns := by decide) : Recv (IsIns C ns Rs) L C m := fun Fr v F H ⟨a, dx, vs, e1, e2, _, _⟩ s => ⟨a, dx, _, e1, s.ext a _ e2, zip_nolook h⟩
theorem recv_own (n : Nat) (hn : L[n]? = some (AtI q C ns Rs) := by rfl) (h : m ∉ ns := by decide) : Recv (IsAddr q) L C m := fun Fr v F H hv s => by
  obtain ⟨dx, vs, e2, _, _, _⟩ := s.ins hn
  exact ⟨q, dx, _, hv, e2, zip_nolook h⟩

/-- f(e, ..) -/
theorem ex_call {S : FS ι κ} (z : ι) (g : GF ⟨X.prog, X.w, X.K, X.mg, X.base⟩ k x (spJ S)) (hr : Room j X.A) (ha : AJ X G L (e :: es) As L1) (hA : As = S.args z := by rfl) (hp : S.pre z := by trivial) (hL : L1.Perm (S.own z ++ Lf) := by exact List.Perm.refl _) (hk : k ≤ j := by omega)
    (hg : Gl X x := by rfl) (hdb : (x == ("__debug__" : Str)) = false := by decide) (he : starEach (e :: es) X.env = (false, eval e X.env) :: starEach es X.env := by rfl) (hpl : (backTo pos (starEach es X.env)).any (·.1) = false := by rfl) :
    EX X G L (.Call (.Name x p) (e :: es) [] pos) (S.res z) (fun y => S.out z y ++ Lf) := fun Fr σ F H Q hE hS t => by
  obtain ⟨fa, fd, ps, Fo, hm, kp, bd⟩ := g.ex
  refine WE.of (pe_call Fo (hr.mono hk) hg hm kp bd .nil L2.pass0 wa hdb he hpl) (ha Fr σ F H _ hE hS fun vs F1 H1 x1 s1 r1 => ?_)
  refine ⟨z, F1, Lf ++ Fr, hp, by rw [List.append_nil, ← hA]; exact r1, ?_, fun y v F2 H2 x2 s2 r2 => t y v F2 H2 (x1.trans x2) ?_ r2⟩
  · have := s1.perm (hL.append_right Fr)
    rwa [List.append_assoc] at this
  · rwa [← List.append_assoc] at s2
theorem ej_call {S : FS ι Unit} (z : ι) (g : GF ⟨X.prog, X.w, X.K, X.mg, X.base⟩ k x (spJ S)) (hr : Room j X.A) (ha : AJ X G L (e :: es) As L1) (hA : As = S.args z := by rfl) (hp : S.pre z := by trivial) (hL : L1.Perm (S.own z ++ Lf) := by exact List.Perm.refl _) (hk : k ≤ j := by omega)
    (hg : Gl X x := by rfl) (hdb : (x == ("__debug__" : Str)) = false := by decide) (he : starEach (e :: es) X.env = (false, eval e X.env) :: starEach es X.env := by rfl) (hpl : (backTo pos (starEach es X.env)).any (·.1) = false := by rfl) :
    EJ X G L (.Call (.Name x p) (e :: es) [] pos) (S.res z ()) (S.out z () ++ Lf) := EX.ej (ex_call z g hr ha hA hp hL hk hg hdb he hpl)
/-- o.m(e, ..), o.m() -/
theorem ex_meth {pl : Sem Bool} {S : FS ι κ} (z : ι) (g : GM ⟨X.prog, X.w, X.K, X.mg, X.base⟩ k C m (spJ S)) (hr : Room j X.A) (ho : EJ X G L o Ro L1) (hv : Recv Ro L1 C m) (ha : AJ X G L1 (e :: es) As L2') (hA : Ro :: As = S.args z := by rfl) (hp : S.pre z := by trivial) (hL : L2'.Perm (S.own z ++ Lf) := by exact List.Perm.refl _) (hk : k ≤ j := by omega)
    (hst : starEach (e :: es) X.env = (false, eval e X.env) :: starEach es X.env := by rfl) (hpl : (backTo pos (starEach es X.env)).any (·.1) = false := by rfl)
    (ht : eval (.Call (.Attribute o m apos) (e :: es) [] pos) X.env = (do
      let ov ← eval o X.env
      standAt apos.atName
      let (f, first) ← holding [ov] (getMethod ov m pl)
      callWith pos f first (backTo pos (starEach (e :: es) X.env)) (backToKw pos (keywordEach [] X.env))) := by rfl) :
    EX X G L (.Call (.Attribute o m apos) (e :: es) [] pos) (S.res z) (fun y => S.out z y ++ Lf) := fun Fr σ F H Q hE hS t => by
  obtain ⟨fa, fd, ps, hc, hm, Fo, bd⟩ := g.ex
  refine WE.of (pe_meth (pl := pl) we hc hm Fo (hr.mono hk) bd .nil L2.pass0 wa hst hpl ht) (ho Fr σ F H _ hE hS fun v F1 H1 x1 s1 r1 => ?_)
  obtain ⟨a, dx, fs, e1, e2, e3⟩ := hv Fr v F1 H1 r1 s1
  refine ⟨a, dx, fs, e1, e2, e3, ha Fr σ F1 H1 _ (hE.mono x1) s1 fun vs F2 H2 x2 s2 r2 => ?_⟩
  refine ⟨z, F2, Lf ++ Fr, hp, by rw [List.append_nil, ← hA]; exact ⟨Ro.mono x2 r1, r2⟩, ?_, fun y v F3 H3 x3 s3 r3 => t y v F3 H3 (x1.trans (x2.trans x3)) ?_ r3⟩
  · have := s2.perm (hL.append_right Fr)
    rwa [List.append_assoc] at this
  · rwa [← List.append_assoc] at s3
theorem ex_meth0 {pl : Sem Bool} {S : FS ι κ} (z : ι) (g : GM ⟨X.prog, X.w, X.K, X.mg, X.base⟩ k C m (spJ S)) (hr : Room j X.A) (ho : EJ X G L o Ro L1) (hv : Recv Ro L1 C m) (hA : [Ro] = S.args z := by rfl) (hp : S.pre z := by trivial) (hL : L1.Perm (S.own z ++ Lf) := by exact List.Perm.refl _) (hk : k ≤ j := by omega)
    (ht : eval (.Call (.Attribute o m apos) [] [] pos) X.env = (do
      let ov ← eval o X.env
      standAt apos.atName
      let (f, first) ← holding [ov] (getMethod ov m pl)
      callWith pos f first (backTo pos (starEach [] X.env)) (backToKw pos (keywordEach [] X.env))) := by rfl) :
    EX X G L (.Call (.Attribute o m apos) [] [] pos) (S.res z) (fun y => S.out z y ++ Lf) := fun Fr σ F H Q hE hS t => by
  obtain ⟨fa, fd, ps, hc, hm, Fo, bd⟩ := g.ex
  refine WE.of (pe_meth0 (pl := pl) we hc hm Fo (hr.mono hk) bd .nil L2.pass0 ht) (ho Fr σ F H _ hE hS fun v F1 H1 x1 s1 r1 => ?_)
  obtain ⟨a, dx, fs, e1, e2, e3⟩ := hv Fr v F1 H1 r1 s1
  refine ⟨a, dx, fs, e1, e2, e3, ?_⟩
  refine ⟨z, F1, Lf ++ Fr, hp, by rw [← hA]; exact ⟨r1, trivial⟩, ?_, fun y v F3 H3 x3 s3 r3 => t y v F3 H3 (x1.trans x3) ?_ r3⟩
  · have := s1.perm (hL.append_right Fr)
    rwa [List.append_assoc] at this
  · rwa [← List.append_assoc] at s3
theorem ej_meth {pl : Sem Bool} {S : FS ι Unit} (z : ι) (g : GM ⟨X.prog, X.w, X.K, X.mg, X.base⟩ k C m (spJ S)) (hr : Room j X.A) (ho : EJ X G L o Ro L1) (hv : Recv Ro L1 C m) (ha : AJ X G L1 (e :: es) As L2') (hA : Ro :: As = S.args z := by rfl) (hp : S.pre z := by trivial) (hL : L2'.Perm (S.own z ++ Lf) := by exact List.Perm.refl _) (hk : k ≤ j := by omega)
    (hst : starEach (e :: es) X.env = (false, eval e X.env) :: starEach es X.env := by rfl) (hpl : (backTo pos (starEach es X.env)).any (·.1) = false := by rfl)
    (ht : eval (.Call (.Attribute o m apos) (e :: es) [] pos) X.env = (do
      let ov ← eval o X.env
      standAt apos.atName
      let (f, first) ← holding [ov] (getMethod ov m pl)
      callWith pos f first (backTo pos (starEach (e :: es) X.env)) (backToKw pos (keywordEach [] X.env))) := by rfl) :
    EJ X G L (.Call (.Attribute o m apos) (e :: es) [] pos) (S.res z ()) (S.out z () ++ Lf) := EX.ej (ex_meth (pl := pl) z g hr ho hv ha hA hp hL hk hst hpl ht)
theorem ej_meth0 {pl : Sem Bool} {S : FS ι Unit} (z : ι) (g : GM ⟨X.prog, X.w, X.K, X.mg, X.base⟩ k C m (spJ S)) (hr : Room j X.A) (ho : EJ X G L o Ro L1) (hv : Recv Ro L1 C m) (hA : [Ro] = S.args z := by rfl) (hp : S.pre z := by trivial) (hL : L1.Perm (S.own z ++ Lf) := by exact List.Perm.refl _) (hk : k ≤ j := by omega)
    (ht : eval (.Call (.Attribute o m apos) [] [] pos) X.env = (do
      let ov ← eval o X.env
      standAt apos.atName
      let (f, first) ← holding [ov] (getMethod ov m pl)
      callWith pos f first (backTo pos (starEach [] X.env)) (backToKw pos (keywordEach [] X.env))) := by rfl) :
    EJ X G L (.Call (.Attribute o m apos) [] [] pos) (S.res z ()) (S.out z () ++ Lf) := EX.ej (ex_meth0 (pl := pl) z g hr ho hv hA hp hL hk ht)
/-- e.f, a property of a frozen instance, nothing owned -/
theorem ej_prop {S : FS ι Unit} (z : ι) (g : GP ⟨X.prog, X.w, X.K, X.mg, X.base⟩ k C f (spJ S)) (hr : Room j X.A) (ho : EJ X G L e Ro L1) (hv : Recv Ro L1 C f) (hA : [Ro] = S.args z := by rfl) (hp : S.pre z := by trivial) (hL : L1.Perm (S.own z ++ Lf) := by exact List.Perm.refl _) (hk : k + 1 ≤ j := by omega)
    (hab : attributeBase e f X.env (eval e X.env) = eval e X.env := by rfl) : EJ X G L (.Attribute e f pos) (S.res z ()) (S.out z () ++ Lf) := fun Fr σ F H Q hE hS t => by
  obtain ⟨pa, ga, fd, ps, hc, hm, Fo, bd⟩ := g.ex
  refine WE.of (pe_prop we hc hm Fo (hr.mono hk) bd .nil L2.pass0 hab) (ho Fr σ F H _ hE hS fun v F1 H1 x1 s1 r1 => ?_)
  obtain ⟨a, dx, fs, e1, e2, e3⟩ := hv Fr v F1 H1 r1 s1
  subst e1
  refine ⟨a, dx, fs, rfl, e2, ?_⟩
  refine ⟨z, F1, Lf ++ Fr, hp, by rw [← hA]; exact ⟨r1, trivial⟩, ?_, fun y v F3 H3 x3 s3 r3 => t v F3 H3 (x1.trans x3) ?_ r3⟩
  · have := s1.perm (hL.append_right Fr)
    rwa [List.append_assoc] at this
  · rwa [← List.append_assoc] at s3
/-- C(e, ..): a new instance, owned -/
theorem ex_make {S : IS ι} (z : ι) (g : GC ⟨X.prog, X.w, X.K, X.mg, X.base⟩ k x C (spJ (S.fs C))) (hr : Room j X.A) (ha : AJ X G L (e :: es) As L1) (hA : As = S.args z := by rfl) (hp : S.pre z := by trivial) (hk : k + 1 ≤ j := by omega)
    (hg : Gl X x := by rfl) (hdb : (x == ("__debug__" : Str)) = false := by decide) (he : starEach (e :: es) X.env = (false, eval e X.env) :: starEach es X.env := by rfl) (hpl : (backTo pos (starEach es X.env)).any (·.1) = false := by rfl) :
    EX X G L (.Call (.Name x p) (e :: es) [] pos) (fun q => IsAddr q) (fun q => AtI q C S.ns (S.flds z) :: L1) := fun Fr σ F H Q hE hS t => by
  obtain ⟨fa, fd, ps, M, Fo, hm, bd⟩ := g.ex
  refine WE.of (pe_make M Fo (hr.mono hk) hg hm bd .nil L2.pass0 wa hdb he hpl) (ha Fr σ F H _ hE hS fun vs F1 H1 x1 s1 r1 => fun y dy hy hd ne => ?_)
  exact ⟨(y, z), F1, L1 ++ Fr, hp, by rw [List.append_nil]; exact ⟨rfl, by rw [← hA]; exact r1⟩, s1.ownI hy hd ne, fun _ v F2 H2 x2 s2 r2 => ⟨r2, t y _ F2 H2 (x1.trans x2) s2 rfl⟩⟩
theorem ej_make {S : IS ι} (z : ι) (g : GC ⟨X.prog, X.w, X.K, X.mg, X.base⟩ k x C (spJ (S.fs C))) (hr : Room j X.A) (ha : AJ X G L (e :: es) As L1) (hA : As = S.args z := by rfl) (hp : S.pre z := by trivial) (hk : k + 1 ≤ j := by omega)
    (hg : Gl X x := by rfl) (hdb : (x == ("__debug__" : Str)) = false := by decide) (he : starEach (e :: es) X.env = (false, eval e X.env) :: starEach es X.env := by rfl) (hpl : (backTo pos (starEach es X.env)).any (·.1) = false := by rfl) :
    EJ X G L (.Call (.Name x p) (e :: es) [] pos) (IsIns C S.ns (S.flds z)) L1 := EX.frzI (ex_make z g hr ha hA hp hk hg hdb he hpl)
/-- C(e, .., k = v, ..) -/
theorem ex_makeK {S : IS ι} {n : Nat} {ks : List Str} {gV : List V → List V → List V} (z : ι) (g : GCK ⟨X.prog, X.w, X.K, X.mg, X.base⟩ k x C (spJ (S.fs C)) n ks gV) (hr : Room j X.A) (ha : AJ X G L (e :: es) As L1) (hkw : KJ X G L1 kws Ks L2') (hn : As.length = n := by rfl) (hks' : Ks.length = ks.length := by rfl)
    (hA : ∀ q vs zs F, All As vs F → All Ks zs F → All (IsAddr q :: S.args z) (gV (.ref q :: vs) zs) F) (hp : S.pre z := by trivial) (hk : k + 1 ≤ j := by omega)
    (hall : (backToKw pos (keywordEach kws X.env)).all (·.1.isSome) = true := by rfl) (hks : (backToKw pos (keywordEach kws X.env)).filterMap (·.1) = ks := by rfl)
    (hg : Gl X x := by rfl) (hdb : (x == ("__debug__" : Str)) = false := by decide) (he : starEach (e :: es) X.env = (false, eval e X.env) :: starEach es X.env := by rfl) (hpl : ((backTo pos (starEach (e :: es) X.env)).any (·.1) || (backToKw pos (keywordEach kws X.env)).any (·.1.isNone)) = false := by rfl) :
    EX X G L (.Call (.Name x p) (e :: es) kws pos) (fun q => IsAddr q) (fun q => AtI q C S.ns (S.flds z) :: L2') := fun Fr σ F H Q hE hS t => by
  obtain ⟨fa, fd, ps, gg, M, Fo, hm, bd⟩ := g.ex
  refine WE.of (pe_makeN M Fo (hr.mono hk) hg hm bd L2.pass0 wa wk hall hks hdb he hpl) (ha Fr σ F H _ hE hS fun vs F1 H1 x1 s1 r1 => hkw Fr σ F1 H1 _ (hE.mono x1) s1 fun zs F2 H2 x2 s2 r2 => ⟨r1.len.symm.trans hn, r2.len.symm.trans hks', fun y dy hy hd ne => ?_⟩)
  exact ⟨(y, z), F2, L2' ++ Fr, hp, hA y vs zs F2 (r1.mono x2) r2, s2.ownI hy hd ne, fun _ v F3 H3 x3 s3 r3 => ⟨r3, t y _ F3 H3 (x1.trans (x2.trans x3)) s3 rfl⟩⟩
theorem ej_makeK {S : IS ι} {n : Nat} {ks : List Str} {gV : List V → List V → List V} (z : ι) (g : GCK ⟨X.prog, X.w, X.K, X.mg, X.base⟩ k x C (spJ (S.fs C)) n ks gV) (hr : Room j X.A) (ha : AJ X G L (e :: es) As L1) (hkw : KJ X G L1 kws Ks L2') (hA : ∀ q vs zs F, All As vs F → All Ks zs F → All (IsAddr q :: S.args z) (gV (.ref q :: vs) zs) F) (hn : As.length = n := by rfl) (hks' : Ks.length = ks.length := by rfl)
    (hp : S.pre z := by trivial) (hk : k + 1 ≤ j := by omega)
    (hall : (backToKw pos (keywordEach kws X.env)).all (·.1.isSome) = true := by rfl) (hks : (backToKw pos (keywordEach kws X.env)).filterMap (·.1) = ks := by rfl)
    (hg : Gl X x := by rfl) (hdb : (x == ("__debug__" : Str)) = false := by decide) (he : starEach (e :: es) X.env = (false, eval e X.env) :: starEach es X.env := by rfl) (hpl : ((backTo pos (starEach (e :: es) X.env)).any (·.1) || (backToKw pos (keywordEach kws X.env)).any (·.1.isNone)) = false := by rfl) :
    EJ X G L (.Call (.Name x p) (e :: es) kws pos) (IsIns C S.ns (S.flds z)) L2' := EX.frzI (ex_makeK z g hr ha hkw hn hks' hA hp hk hall hks hg hdb he hpl)
/-- C() of a class without an __init__ -/
theorem run_make00 {pins : List (Addr × Obj)} {σ : L2.St} {H : Hp} {s : Shared} {Q : VK} (M : Mk0 X.K C) (I : Inv X pins σ H s) (h : ∀ x dx, H x = none → H dx = none → dx ≠ x → Q (.ref x) (upd (upd H dx (.own x)) x (.ins C dx []))) :
    wpAny (model X.prog X.w) X.A (call (.ref C) []) (EP X pins σ Q) X.xe s := by
  have hq := h (s.heap.objs.size + 1) s.heap.objs.size (I.hok.fresh (Nat.le_succ _)) (I.hok.fresh (Nat.le_refl _)) (Nat.ne_of_lt (Nat.lt_succ_self _))
  have I2 := Inv.made (C := C) I
  have Y := PySem.W.makes_of (M := model X.prog X.w) I.kIn M.makes
  refine wpAny_call (make_map0 I.kIn M.makes M.init (fun self => PySem.W.Looks.of_pure (PySem.W.oi_bind self)) ?_)
  have ob : ((s.heap.push PySem.W.emptyDict).push (PySem.W.instObj C s.heap.objs.size)).get? (s.heap.objs.size + 1) = some (PySem.W.instObj C s.heap.objs.size) := by
    have := Heap.get?_push_size (s.heap.push PySem.W.emptyDict) (o := PySem.W.instObj C s.heap.objs.size) rfl
    rwa [Heap.size_push] at this
  have t1 : PySem.W.Looks (model X.prog X.w) ((s.heap.push PySem.W.emptyDict).push (PySem.W.instObj C s.heap.objs.size)) (typeOf (.ref (s.heap.objs.size + 1))) (.ref C) := (PySem.W.Looks.ld ob).andThen .now
  have t2 : PySem.W.Looks (model X.prog X.w) ((s.heap.push PySem.W.emptyDict).push (PySem.W.instObj C s.heap.objs.size)) (isInstance (.ref (s.heap.objs.size + 1)) (.type "object")) true := t1.andThen (Y.top.keeps fun b o e => Heap.get?_push_of_some _ (Heap.get?_push_of_some _ e))
  refine codeAny_call_builtin PySem.W.oi_plain PySem.W.entry_oi (@PySem.W.check_slot (model X.prog X.w) _ _ _ "object.__init__" "object" "__init__" (.ref (s.heap.objs.size + 1)) [] [] _ PySem.W.oi_kind PySem.W.oi_split t2 (PySem.W.oi_args (.ref (s.heap.objs.size + 1))) ?_)
  rw [PySem.W.oi_run]
  exact wpAny_pure (And.intro rfl (show EP X pins σ Q (.ref (s.heap.objs.size + 1)) _ from ⟨V.ref (s.heap.objs.size + 1), _, I2, rfl, hq⟩))
theorem ex_make00 (M : Mk0 X.K C) (hm : X.mg x = some (.ref C)) (hg : Gl X x := by rfl) (hdb : (x == ("__debug__" : Str)) = false := by decide) : EX X G L (.Call (.Name x p) [] [] pos) (fun q => IsAddr q) (fun q => AtI q C [] [] :: L) := fun Fr σ F H Q hE hS t => by
  have hpe : PE X (.Call (.Name x p) [] [] pos) (fun _ H Q => ∀ y dy, H y = none → H dy = none → dy ≠ y → Q (.ref y) (upd (upd H dy (.own y)) y (.ins C dy []))) := ⟨fun pins s σ H Q I h => by
    refine wpAny_Call_Name_kw (ld_glob I hg hm ?_ hdb)
    exact PySem.W.callWith_K0 I.kIn M.kp (run_make00 M I h)⟩
  exact WE.of hpe fun y dy hy hd ne => t y _ F _ (Ext.refl F) (hS.ownI hy hd ne) rfl
theorem ej_make00 (M : Mk0 X.K C) (hm : X.mg x = some (.ref C)) (hg : Gl X x := by rfl) (hdb : (x == ("__debug__" : Str)) = false := by decide) : EJ X G L (.Call (.Name x p) [] [] pos) (IsIns C [] []) L := EX.frzI (ex_make00 M hm hg hdb)

/-! ### kinds -/
structure ITy (K : PySem.W.Frag) (C : Addr) : Prop where
  cl : Cls K C
  ha : PySem.W.findIn K (.ref C) "__class__" = some (some (.builtin "object.__class__"))
  hn : PySem.W.specialIn K (.builtin "object.__class__") "__get__" = some (some (.builtin "getset_descriptor.__get__"))
  htk : PySem.W.takesIn K (.builtin "object.__class__") = some true
  hm : PySem.W.mroIn K C (.type "object") = some true
/-- isinstance(e, D) -/
theorem ej_isi {D' : Addr} {t : Bool} (hm : X.mg "isinstance" = none) (T : ITy X.K C) (hk : PySem.W.kitOne X.K (.ref C) (.ref D') = some t) (ha : AJ X G L [a, b] [IsIns C ns Rs, IsAddr D'] L1) (hg : Gl X "isinstance" := by rfl) (he : starEach [a, b] X.env = (false, eval a X.env) :: starEach [b] X.env := by rfl)
    (hpl : (backTo pos (starEach [b] X.env)).any (·.1) = false := by rfl) : EJ X G L (.Call (.Name "isinstance" p) [a, b] [] pos) (IsBool t) L1 :=
  ej_callB call_isi hm (by decide +kernel) ha (fun Fr vs F H Q h s k => by
    obtain ⟨v, u, rfl, ⟨w, dx, us, rfl, e2, _, _⟩, e3⟩ := all2 h
    have e4 : u = .ref D' := e3
    subst e4
    exact ⟨_, _, .ref C, .ref D', t, rfl, .own D', .base (.ins (s.ext w _ e2) T.cl T.ha T.hn T.htk T.hm), hk, k _ F H (Ext.refl F) s rfl⟩) hg (by decide) (by decide) he hpl
/-- is True, is not True -/
theorem oj_isB {t u : Bool} : OpJ rIsB (IsBool t) (IsBool u) L (IsBool (decide (t = u))) L := fun Fr v w F H Q h1 h2 hS k => ⟨t, u, h1, h2, k _ F H (Ext.refl F) hS rfl⟩
theorem oj_notB {t u : Bool} : OpJ rNotB (IsBool t) (IsBool u) L (IsBool (!decide (t = u))) L := fun Fr v w F H Q h1 h2 hS k => ⟨t, u, h1, h2, k _ F H (Ext.refl F) hS rfl⟩
/-- texts: order -/
def leS (a b : Str) : Bool := !decide (b.cps.toList < a.cps.toList)
theorem ej_chainS {s1 s2 s3 : Str} (ha : EJ X G L a (IsStr s1) L) (hb : EJ X G L b (IsStr s2) L) (hc : EJ X G L c (IsStr s3) L) (hm : lastMarks [CmpOp.LtE, CmpOp.LtE] [b, c] = false := by with_unfolding_all rfl) : EJ X G L (.Compare a [.LtE, .LtE] [b, c] pos) (IsBool (leS s1 s2 && leS s2 s3)) L := fun Fr σ F H Q hE hS k =>
  WE.of (pe_chain op_le_str op_le_str we we we hm) (ha Fr σ F H _ hE hS fun v F1 H1 x1 s1' r1 => hb Fr σ F1 H1 _ (hE.mono x1) s1' fun u F2 H2 x2 s2' r2 => ⟨s1, s2, r1, r2, leS s1 s2, rfl, by
    cases e : leS s1 s2 with
    | true =>
      rw [if_pos rfl]
      exact hc Fr σ F2 H2 _ ((hE.mono x1).mono x2) s2' fun w F3 H3 x3 s3' r3 => ⟨s2, s3, r2, r3, k _ F3 H3 (x1.trans (x2.trans x3)) s3' (by rw [e, Bool.true_and]; exact rfl)⟩
    | false =>
      rw [if_neg Bool.false_ne_true]
      exact k _ F2 H2 (x1.trans x2) s2' (by rw [e]; exact rfl)⟩)
/-- a text in texts -/
theorem all_strs {F : Hp} : ∀ {ns : List Str} {vs : List V}, All (ns.map IsStr) vs F → vs = ns.map V.str
  | [], [], _ => rfl
  | n :: ns, v :: vs, h => by rw [List.map_cons, ← all_strs (ns := ns) (vs := vs) h.2]; exact congrArg (· :: vs) h.1
  | [], _ :: _, h => h.elim
  | _ :: _, [], h => h.elim
theorem flat_strs : ∀ ns : List Str, (ns.map V.str).all flatV = true
  | [] => rfl
  | n :: ns => by rw [List.map_cons, List.all_cons, flat_strs ns]; rfl
theorem inV_strs (z : Str) : ∀ ns : List Str, inV (.str z) (ns.map V.str) = ns.any fun y => y == z
  | [] => rfl
  | n :: ns => by
    show ((n == z) || inV (.str z) (ns.map V.str)) = _
    rw [inV_strs z ns]; rfl
theorem oj_inT {z : Str} {l : List Str} : OpJ (rIn X.K false) (IsStr z) (IsTup X.K (l.map IsStr)) L (IsBool (l.any fun y => y == z)) L := fun Fr v w F H Q h1 ⟨t, ys, e1, h2, h3⟩ hS k => by
  have e2 : v = .str z := h1
  have e3 := all_strs h3
  subst e2 e3
  exact ⟨t, _, e1, Or.inr (seqT_mono hS.ext h2), rfl, flat_strs l, k _ F H (Ext.refl F) hS (by show V.bl (inV _ _) = _; rw [inV_strs])⟩
theorem oj_notInT {z : Str} {l : List Str} : OpJ (rIn X.K true) (IsStr z) (IsTup X.K (l.map IsStr)) L (IsBool (!l.any fun y => y == z)) L := fun Fr v w F H Q h1 ⟨t, ys, e1, h2, h3⟩ hS k => by
  have e2 : v = .str z := h1
  have e3 := all_strs h3
  subst e2 e3
  exact ⟨t, _, e1, Or.inr (seqT_mono hS.ext h2), rfl, flat_strs l, k _ F H (Ext.refl F) hS (by show V.bl (!inV _ _) = _; rw [inV_strs])⟩
/-- in an owned list -/
theorem oj_inO (n : Nat) {z : Str} {l : List Str} (hn : L[n]? = some (AtL q (l.map IsStr)) := by rfl) : OpJ (rIn X.K false) (IsStr z) (IsAddr q) L (IsBool (l.any fun y => y == z)) L := fun Fr v w F H Q h1 h2 hS k => by
  obtain ⟨xs, h3, h4, _⟩ := hS.lst hn
  have e2 : v = .str z := h1
  have e3 := all_strs h4
  subst e2 e3
  exact ⟨q, _, h2, Or.inl (Or.inl (Or.inl h3)), rfl, flat_strs l, k _ F H (Ext.refl F) hS (by show V.bl (inV _ _) = _; rw [inV_strs])⟩
/-- a dict of the module: in, at -/
theorem oj_inD {d : Addr} {z : Str} {r : Option Value} (h : PySem.W.nsIn X.K d z = some r) : OpJ (fun x y H Q => ∃ (z : Str) (r : Option Value), x = .str z ∧ y = .ref d ∧ PySem.W.nsIn X.K d z = some r ∧ Q (.bl (!r.isSome)) H) (IsStr z) (IsAddr d) L (IsBool (!r.isSome)) L := fun Fr v w F H Q h1 h2 hS k => ⟨z, r, h1, h2, h, k _ F H (Ext.refl F) hS rfl⟩
theorem ej_ixD {d : Addr} {z : Str} {t : V} (ha : EJ X G L a (IsAddr d) L1) (hb : EJ X G L1 b (IsStr z) L2') (h : KDct X.K X.w d z t) (hs : PlainIx b := by exact fun _ _ => rfl) : EJ X G L (.Subscript a b pos) (IsV t) L2' := fun Fr σ F H Q hE hS k =>
  WE.of (pe_ix ix_kdict we we hs) (ha Fr σ F H _ hE hS fun v F1 H1 x1 s1 r1 => hb Fr σ F1 H1 _ (hE.mono x1) s1 fun u F2 H2 x2 s2 r2 => ⟨d, z, t, r1, r2, h, k _ F2 H2 (x1.trans x2) s2 rfl⟩)
/-- a tuple, a list of the module -/
theorem ej_kT {d : Addr} {vs : List V} (h : EJ X G L e (IsAddr d) L1) (ht : ∀ H, SqT X.K H d vs) : EJ X G L e (IsTup X.K (vs.map IsV)) L1 := fun Fr σ F H Q hE hS k => h Fr σ F H _ hE hS fun v F1 H1 x1 s1 r1 => k v F1 H1 x1 s1 ⟨d, vs, r1, ht F1, by
  have aux : ∀ vs : List V, All (vs.map IsV) vs F1 := by
    intro vs
    induction vs with
    | nil => trivial
    | cons v vs ih => exact ⟨rfl, ih⟩
  exact aux vs⟩
end
end J
/-! J6: values and owned things that are known only in part. -/
namespace J
open PySem PySem.Spec PyProof.Rows L2

/-- an owned thing, one of several -/
def AtEx {α : Type} (R : α → Atm) : Atm := ⟨fun F h => ∃ x, (R x).p F h, fun e ⟨x, h⟩ => ⟨x, (R x).mono e h⟩⟩
section
variable {X : Cx} {G G1 : Gam} {L L1 L2' L3 : List Atm} {e a b c : Expr} {es : List Expr} {R Ra Rb R' : MP} {Rs : List MP} {pos pos' p : Pos} {F F0 H : Hp} {Fr : List Atm} {D : Ends} {ss rest ss1 ss2 : List Stmt} {x : Str} {α κ : Type} {i j : Int}

/-! ### slots -/
theorem slot_same {m : Nat} {v : V} {σ : L2.St} (hv : σ[m]? = some (some v)) : σ.set m (some v) = σ := List.ext_getElem? fun n => by
  rw [List.getElem?_set]
  split
  · rename_i e; subst e
    split
    · exact hv.symm
    · rename_i hl; exact absurd (List.getElem?_eq_some_iff.mp hv).1 hl
  · rfl
theorem sj_ex (m : Nat) {R : α → MP} (hm : G[m]? = some (some (IsEx R)) := by rfl) (h : ∀ y, SJ X F0 Fr (G.set m (some (R y))) L ss D) : SJ X F0 Fr G L ss D := fun σ F H x hE hS => by
  obtain ⟨v, hv, y, hy⟩ := hE.get hm
  have := hE.set hy m
  rw [slot_same hv] at this
  exact h y σ F H x this hS
/-- the slot m, told weaker -/
theorem sj_wk (m : Nat) (hm : G[m]? = some (some R) := by rfl) (hR : ∀ v F, R.p v F → R'.p v F) (h : SJ X F0 Fr (G.set m (some R')) L ss D) : SJ X F0 Fr G L ss D := fun σ F H x hE hS => by
  obtain ⟨v, hv, hy⟩ := hE.get hm
  have := hE.set (hR v F hy) m
  rw [slot_same hv] at this
  exact h σ F H x this hS
theorem sj_eq (m : Nat) (hm : G[m]? = some (some R) := by rfl) (hR : R = R') (h : SJ X F0 Fr (G.set m (some R')) L ss D) : SJ X F0 Fr G L ss D := sj_wk m hm (fun v F q => hR ▸ q) h
/-- name = e, e's value opened -/
theorem sj_setE {R : α → MP} (m : Nat) (h : EJ X G L e (IsEx R) L1) (h2 : ∀ y, SJ X F0 Fr (G.set m (some (R y))) L1 rest D) (hN : X.N.Nodup) (hi : X.N[m]? = some x := by rfl)
    (hx : Loc X.env.scope x := by first | exact Or.inl rfl | exact Or.inr rfl) (hs : swapsWith e (some (.Name x pos')) pos.line X.env = pure false := by rfl) (hf : X.fn x = true ∨ X.env.scope.names.lookup x = some .local := by first | exact .inl rfl | exact .inr rfl) :
    SJ X F0 Fr G L (.Assign [.Name x pos'] e pos :: rest) D := sj_setX (R := R) (L1 := fun _ => L1) m (fun Fr σ F H Q hE hS k => h Fr σ F H Q hE hS fun v F1 H1 x1 s1 ⟨y, r1⟩ => k y v F1 H1 x1 s1 r1) h2 hN hi hx hs hf
theorem EX.toEx {R : κ → MP} (h : EX X G L e R fun _ => L1) : EJ X G L e (IsEx R) L1 := fun Fr σ F H Q hE hS k => h Fr σ F H Q hE hS fun y v F1 H1 x1 s1 r1 => k v F1 H1 x1 s1 ⟨y, r1⟩
theorem all_pick {R : Nat → α → MP} {F : Hp} (d : α) : ∀ (n : Nat) {vs : List V}, All ((List.range n).map fun i => IsEx (R i)) vs F → ∃ f : Nat → α, All ((List.range n).map fun i => R i (f i)) vs F
  | 0, vs, h => ⟨fun _ => d, h⟩
  | n + 1, vs, h => by
    rw [List.range_succ, List.map_append] at h
    have hl := h.len
    rw [List.length_append, List.length_map, List.length_range] at hl
    have hl : n + 1 = vs.length := hl
    obtain ⟨us, v, rfl⟩ : ∃ us v, vs = us ++ [v] := by
      rcases List.eq_nil_or_concat vs with e | ⟨us, v, e⟩
      · rw [e] at hl; cases hl
      · exact ⟨us, v, by rw [e, List.concat_eq_append]⟩
    have hu : us.length = n := by rw [List.length_append] at hl; exact (Nat.succ.inj hl).symm
    have spl : ∀ {As : List MP} {us : List V} {B : MP} {v : V}, As.length = us.length → All (As ++ [B]) (us ++ [v]) F → All As us F ∧ B.p v F := by
      intro As
      induction As with
      | nil =>
        intro us B v hl h
        cases us with
        | nil => exact ⟨trivial, h.1⟩
        | cons _ _ => cases hl
      | cons A As ih =>
        intro us B v hl h
        cases us with
        | nil => cases hl
        | cons u us =>
          have := ih (Nat.succ.inj hl) h.2
          exact ⟨⟨h.1, this.1⟩, this.2⟩
    obtain ⟨h1, y, h2⟩ := spl (by rw [List.length_map, List.length_range, hu]) h
    obtain ⟨f, hf⟩ := all_pick d n h1
    refine ⟨fun i => if i = n then y else f i, ?_⟩
    rw [List.range_succ, List.map_append]
    refine All.append ?_ ⟨?_, trivial⟩
    · have : (List.range n).map (fun i => R i (if i = n then y else f i)) = (List.range n).map fun i => R i (f i) := List.map_congr_left fun i hi => by
        rw [if_neg (Nat.ne_of_lt (List.mem_range.mp hi))]
      rw [this]; exact hf
    · show (R n (if n = n then y else f n)).p v F
      rw [if_pos rfl]; exact h2
/-- a frozen list of partly known items, opened -/
theorem sj_exF (m n : Nat) {R : Nat → α → MP} (d : α) (hm : G[m]? = some (some (IsLst X.K Rs)) := by rfl) (hR : Rs = (List.range n).map fun i => IsEx (R i)) (h : ∀ f : Nat → α, SJ X F0 Fr (G.set m (some (IsLst X.K ((List.range n).map fun i => R i (f i))))) L ss D) : SJ X F0 Fr G L ss D := fun σ F H x hE hS => by
  obtain ⟨v, hv, a, vs, e1, e2, e3⟩ := hE.get hm
  subst hR
  obtain ⟨f, hf⟩ := all_pick d n e3
  have := hE.set (R := IsLst X.K ((List.range n).map fun i => R i (f i))) (v := v) ⟨a, vs, e1, e2, hf⟩ m
  rw [slot_same hv] at this
  exact h f σ F H x this hS

/-! ### owned things -/
theorem Sep.wk {k : Nat} {P P' : Atm} (s : Sep F (L ++ Fr) H) (hk : L[k]? = some P) (h : ∀ F h, P.p F h → P'.p F h) : Sep F (L.set k P' ++ Fr) H := by
  obtain ⟨h1, p1, x1, _, t, _⟩ := s.at (get_app (Fr := Fr) hk)
  rw [← set_app (Fr := Fr) hk]
  exact t P' h1 (h F h1 p1) (fun _ z => z) H (fun a o z => x1 a o z) fun _ _ => rfl
theorem sj_wkA (k : Nat) {P P' : Atm} (hk : L[k]? = some P := by rfl) (hP : ∀ F h, P.p F h → P'.p F h) (h : SJ X F0 Fr G (L.set k P') ss D) : SJ X F0 Fr G L ss D := fun σ F H x hE hS => h σ F H x hE (hS.wk hk hP)
theorem sj_opA (k : Nat) {R : α → Atm} (hk : L[k]? = some (AtEx R) := by rfl) (h : ∀ y, SJ X F0 Fr G (L.set k (R y)) ss D) : SJ X F0 Fr G L ss D := fun σ F H x hE hS => by
  obtain ⟨h1, ⟨y, p1⟩, x1, _, t, _⟩ := hS.at (get_app (Fr := Fr) hk)
  have := t (R y) h1 p1 (fun _ z => z) H (fun a o z => x1 a o z) fun _ _ => rfl
  rw [set_app (Fr := Fr) hk] at this
  exact h y σ F H x hE this
theorem EJ.wkA (k : Nat) {P P' : Atm} (h : EJ X G L e R L1) (hk : L1[k]? = some P := by rfl) (hP : ∀ F h, P.p F h → P'.p F h) : EJ X G L e R (L1.set k P') := fun Fr σ F H Q hE hS t => h Fr σ F H Q hE hS fun v F1 H1 x1 s1 r1 => t v F1 H1 x1 (s1.wk hk hP) r1
theorem EJ.opA (k : Nat) {Ra : α → Atm} (hk : L[k]? = some (AtEx Ra) := by rfl) (h : ∀ y, EJ X G (L.set k (Ra y)) e R L1) : EJ X G L e R L1 := fun Fr σ F H Q hE hS t => by
  obtain ⟨h1, ⟨y, p1⟩, x1, _, w, _⟩ := hS.at (get_app (Fr := Fr) hk)
  have := w (Ra y) h1 p1 (fun _ z => z) H (fun a o z => x1 a o z) fun _ _ => rfl
  rw [set_app (Fr := Fr) hk] at this
  exact h y Fr σ F H Q hE this t

/-! ### operators -/
theorem oj_exL {r : R2} {Ra R : κ → MP} (h : ∀ y, OpJ r (Ra y) Rb L (R y) L1) : OpJ r (IsEx Ra) Rb L (IsEx R) L1 := fun Fr v u F H Q ⟨y, h1⟩ h2 hS k => h y Fr v u F H Q h1 h2 hS fun w F1 H1 x1 s1 r1 => k w F1 H1 x1 s1 ⟨y, r1⟩
theorem oj_exR {r : R2} {Rb R : κ → MP} (h : ∀ y, OpJ r Ra (Rb y) L (R y) L1) : OpJ r Ra (IsEx Rb) L (IsEx R) L1 := fun Fr v u F H Q h1 ⟨y, h2⟩ hS k => h y Fr v u F H Q h1 h2 hS fun w F1 H1 x1 s1 r1 => k w F1 H1 x1 s1 ⟨y, r1⟩
/-- a place by an operator's rule -/
theorem ej_ixR {r : R2} (hr : IxR X r) (ha : EJ X G L a Ra L1) (hb : EJ X G L1 b Rb L2') (ho : OpJ r Ra Rb L2' R L3) (hs : PlainIx b := by exact fun _ _ => rfl) : EJ X G L (.Subscript a b pos) R L3 := fun Fr σ F H Q hE hS k =>
  WE.of (pe_ix hr we we hs) (ha Fr σ F H _ hE hS fun v F1 H1 x1 s1 r1 => hb Fr σ F1 H1 _ (hE.mono x1) s1 fun u F2 H2 x2 s2 r2 => ho Fr v u F2 H2 _ (Ra.mono x2 r1) r2 s2 fun w F3 H3 x3 s3 r3 => k w F3 H3 ((x1.trans x2).trans x3) s3 r3)
theorem oj_ixL {n : Nat} (hn : j = (n : Int)) (hR : Rs[n]? = some R) : OpJ (rIxL X.K) (IsLst X.K Rs) (IsInt j) L R L := fun Fr v u F H Q ⟨t, xs, e1, h1, h2⟩ r2 s k => by
  obtain ⟨w, hw, rw'⟩ := h2.val hR
  exact ⟨t, xs, j, w, e1, r2, seqL_mono s.ext h1, by rw [hn]; exact atI_nat hw, k w F H (Ext.refl F) s rw'⟩

/-! ### tests that are not known -/
def TX (X : Cx) (G : Gam) (L : List Atm) (e : Expr) (t : κ → Bool) (L' : List Atm) : Prop :=
  ∀ (Fr : List Atm) (σ : L2.St) (F H : Hp) (Q : Bool → Hp → Prop), Env G σ F → Sep F (L ++ Fr) H → (∀ y F' H', Ext F F' → Sep F' (L' ++ Fr) H' → Q (t y) H') → WT X e σ H Q
theorem tx_cmp {op : CmpOp} {r : R2} {t : κ → Bool} {Ra : κ → MP} (ho : OpR X (compareOp op) r) (ha : EJ X G L a (IsEx Ra) L1) (hb : EJ X G L1 b Rb L2') (hr : ∀ y, OpJ r (Ra y) Rb L2' (IsBool (t y)) L3) (hm : behindInMarks op b = false) : TX X G L (.Compare a [op] [b] pos) t L3 := fun Fr σ F H Q hE hS k =>
  WT.of (pt_cmpR ho we we hm) (ha Fr σ F H _ hE hS fun v F1 H1 x1 s1 r1 => hb Fr σ F1 H1 _ (hE.mono x1) s1 fun u F2 H2 x2 s2 r2 => by
    obtain ⟨y, r1⟩ := r1
    exact hr y Fr v u F2 H2 _ ((Ra y).mono x2 r1) r2 s2 fun w F3 H3 x3 s3 r3 => ⟨t y, r3, k y F3 H3 ((x1.trans x2).trans x3) s3⟩)
theorem sj_ifX {t : κ → Bool} (h : TX X G L c t L1) (h1 : ∀ y, t y = true → SJ X F0 Fr G L1 ss1 (thenDo X rest D)) (h2 : ∀ y, t y = false → SJ X F0 Fr G L1 ss2 (thenDo X rest D)) : SJ X F0 Fr G L (.If c ss1 ss2 pos :: rest) D := fun σ F H x0 hE hS =>
  WB.of (pss_cons (ps_if wt wb wb) wb) (h Fr σ F H _ hE hS fun y F1 H1 x1 s1 => by
    cases e : t y with
    | true => exact h1 y e σ F1 H1 (x0.trans x1) (hE.mono x1) s1
    | false => exact h2 y e σ F1 H1 (x0.trans x1) (hE.mono x1) s1)
/-- both branches come to one state -/
theorem sj_ifXJ {t : κ → Bool} (G1 : Gam) (Lj : List Atm) (h : TX X G L c t L1) (h1 : ∀ y, t y = true → SJ X F0 Fr G L1 ss1 { D with nx := At F0 Fr G1 Lj }) (h2 : ∀ y, t y = false → SJ X F0 Fr G L1 ss2 { D with nx := At F0 Fr G1 Lj }) (h3 : SJ X F0 Fr G1 Lj rest D) : SJ X F0 Fr G L (.If c ss1 ss2 pos :: rest) D := fun σ F H x0 hE hS =>
  WB.of (pss_cons (ps_if wt wb wb) wb) (h Fr σ F H _ hE hS fun y F1 H1 x1 s1 => by
    have fin : ∀ σ H, At F0 Fr G1 Lj σ H → WB X rest D σ H := fun σ H ⟨F, x, hE, hS⟩ => h3 σ F H x hE hS
    cases e : t y with
    | true => exact (h1 y e σ F1 H1 (x0.trans x1) (hE.mono x1) s1).mono (D' := thenDo X rest D) fin (fun _ _ z => z) (fun _ _ z => z) fun _ _ z => z
    | false => exact (h2 y e σ F1 H1 (x0.trans x1) (hE.mono x1) s1).mono (D' := thenDo X rest D) fin (fun _ _ z => z) (fun _ _ z => z) fun _ _ z => z)
theorem ix_range1 {n : κ → Nat} {tg : Expr} (hm : X.mg "range" = none) (h : AJ X G L [a] [IsEx fun y : κ => IsInt (n y : Int)] L1) (hz : ∀ y, n y < 2 ^ 62) (hg : Gl X "range" := by rfl) (hs : starEach [a] X.env = [(false, eval a X.env)] := by rfl) : IX X G L tg (.Call (.Name "range" p) [a] [] pos) n (fun _ k => IsInt (k : Int)) (fun _ => L1) := fun Fr σ F H Rr hE hS k =>
  WI.of (pi_range1 hg hm wa hs) (h Fr σ F H _ hE hS fun vs F1 H1 x1 s1 r1 => by
    obtain ⟨v, rfl, y, e1⟩ := all1 r1
    have e2 : v = .int (n y : Int) := e1
    subst e2
    have := hz y
    refine ⟨(n y : Int), rfl, by omega, by omega, k y _ F1 H1 x1 s1 ?_⟩
    rw [Int.toNat_natCast]
    exact fun m F H _ _ => ⟨fun hl => hl, fun hl => Nat.le_of_eq hl.symm, fun x H3 _ ⟨e3, e4⟩ => ⟨F, Ext.refl F, fun _ s => by rw [e3]; exact s, by rw [e4, Int.zero_add]; exact rfl⟩⟩)
theorem mapAt {α : Type} (g : α → MP) (l : List α) (d : α) : ∀ i R, (l.map g)[i]? = some R → g (l.getD i d) = R := fun i R h => by
  rw [List.getElem?_map] at h
  cases e : l[i]? with
  | none => rw [e] at h; cases h
  | some x =>
    rw [e] at h
    have e2 : g x = R := Option.some.inj h
    rw [List.getD_eq_getElem?_getD, e]
    exact e2
theorem mapGet {α : Type} (g : α → MP) (l : List α) (d : α) {i : Nat} (h : i < l.length) : (l.map g)[i]? = some (g (l.getD i d)) := by
  rw [List.getElem?_map, List.getElem?_eq_getElem h, List.getD_eq_getElem?_getD, List.getElem?_eq_getElem h]; rfl
/-- a def's end without return -/
theorem sj_fin {F1 : Hp} {R' : κ → MP} {Lo : κ → List Atm} {rt : VK} {bk ct : L2.St → Hp → Prop} (y : κ) (hl : L = Lo y := by rfl) (hr : ∀ F, (R' y).p .non F := by intro _; rfl) (hx : Ext F0 F1 := by first | exact Ext.refl _ | assumption) : SJ X F1 Fr G L [] ⟨fun _ H => Rt F0 Fr R' Lo .non H, rt, bk, ct⟩ := sj_nil fun σ H ⟨F, x, hE, hS⟩ => ⟨y, F, hx.trans x, hl ▸ hS, hr F⟩
theorem rangeMap {α β : Type} (g : α → β) (d : α) : ∀ l : List α, (List.range l.length).map (fun i => g (l.getD i d)) = l.map g := fun l => by
  refine List.ext_getElem? fun i => ?_
  rw [List.getElem?_map, List.getElem?_map]
  by_cases h : i < l.length
  · rw [List.getElem?_range h, List.getElem?_eq_getElem h]
    simp [h]
  · rw [List.getElem?_eq_none (by simpa using h), List.getElem?_eq_none (by simpa using h)]; rfl
theorem accAll {α : Type} (g : α → MP) (d : α) (l : List α) : accOf (fun _ => true) (fun i => g (l.getD i d)) l.length = l.map g := by rw [accOf_all, rangeMap]
theorem EX.frzA {g : α → MP} {d : α} {l : List α} (h : EX X G L e (fun q => IsAddr q) (fun q => AtL q (accOf (fun _ => true) (fun i => g (l.getD i d)) l.length) :: L1)) : EJ X G L e (IsLst X.K (l.map g)) L1 := by
  rw [accAll] at h
  exact EX.frzL h
theorem ej_gA {t : Addr} (hm : X.mg x = some (.ref t)) (hg : Gl X x := by rfl) (hd : (x == ("__debug__" : Str)) = false := by decide) : EJ X G L (.Name x pos) (IsAddr t) L := ej_glob (v := .ref t) hm rfl hg hd
theorem ej_gI {n : Int} (hm : ∃ t, X.mg x = some (.int n t)) (hg : Gl X x := by rfl) (hd : (x == ("__debug__" : Str)) = false := by decide) : EJ X G L (.Name x pos) (IsInt n) L := let ⟨t, h⟩ := hm; ej_glob (v := .int n) h ⟨t, rfl⟩ hg hd
theorem ej_slS {z : Str} {p2 : Pos} (ha : EJ X G L a (IsStr z) L1) (hb : EJ X G L1 b (IsInt i) L2') (hc : EJ X G L2' c (IsInt j) L3) (hz : z.length ≤ 100000) : EJ X G L (.Subscript a (.Slice (some b) (some c) none p2) pos) (IsStr (cutS z (some i) (some j))) L3 := fun Fr σ F H Q hE hS k =>
  WE.of (pe_slice sl_str we (po_some we) (po_some we)) (ha Fr σ F H _ hE hS fun v F1 H1 x1 s1 r1 => hb Fr σ F1 H1 _ (hE.mono x1) s1 fun u F2 H2 x2 s2 r2 => ⟨i, r2, hc Fr σ F2 H2 _ ((hE.mono x1).mono x2) s2 fun w F3 H3 x3 s3 r3 => ⟨j, r3, z, r1, small_line hz, k _ F3 H3 ((x1.trans x2).trans x3) s3 rfl⟩⟩)
theorem ij_lstM {α : Type} {tg iter : Expr} (g : α → MP) (d : α) (l : List α) (h : EJ X G L iter (IsLst X.K (l.map g)) L1) : IJ X G L tg iter l.length (fun i => g (l.getD i d)) L1 := by
  have := ij_lst (tg := tg) (fun i => g (l.getD i d)) h (mapAt g l d)
  rwa [List.length_map] at this
theorem ij_tupM {α : Type} {tg iter : Expr} (g : α → MP) (d : α) (l : List α) (h : EJ X G L iter (IsTup X.K (l.map g)) L1) : IJ X G L tg iter l.length (fun i => g (l.getD i d)) L1 := by
  have := ij_tup (tg := tg) (fun i => g (l.getD i d)) h (mapAt g l d)
  rwa [List.length_map] at this
end
end J
/-! J7: calls with one owned thing in its place; arguments known in part. -/
namespace J
open PySem PySem.Spec PyProof.Rows L2
section
variable {X : Cx} {G G1 : Gam} {L L1 L2' L3 Lf : List Atm} {e o a b c : Expr} {es : List Expr} {kws : List Keyword} {R Ra Rb Ro : MP} {Rs As Ks : List MP} {pos pos' apos p : Pos} {F F0 H : Hp} {Fr : List Atm} {D : Ends} {ss rest : List Stmt} {x m f : Str} {C q : Addr} {k j : Nat} {ι κ α : Type}
theorem EJ.perm (h : EJ X G L e R L1) (hp : L1.Perm L2') : EJ X G L e R L2' := fun Fr σ F H Q hE hS t => h Fr σ F H Q hE hS fun v F1 H1 x1 s1 r1 => t v F1 H1 x1 (s1.perm (hp.append_right Fr)) r1
theorem perm_at {β : Type} {P P' : β} : ∀ {l : List β} {i : Nat}, l[i]? = some P → l.Perm (P :: l.eraseIdx i) ∧ (P' :: l.eraseIdx i).Perm (l.set i P')
  | [], _, h => by simp at h
  | y :: l, 0, h => by
    have e : y = P := by simpa using h
    subst e
    exact ⟨.refl _, .refl _⟩
  | y :: l, i + 1, h => by
    obtain ⟨h1, h2⟩ := perm_at (P' := P') (l := l) (i := i) (by simpa using h)
    exact ⟨(List.Perm.cons y h1).trans (List.Perm.swap _ _ _), (List.Perm.swap _ _ _).trans (List.Perm.cons y h2)⟩
/-- f(e, ..) that needs the one owned thing at i -/
theorem ej_callAt {S : FS ι Unit} {P P' : Atm} (z : ι) (i : Nat) (g : GF ⟨X.prog, X.w, X.K, X.mg, X.base⟩ k x (spJ S)) (hr : Room j X.A) (ha : AJ X G L (e :: es) As L1) (hA : As = S.args z := by rfl) (hp : S.pre z := by trivial) (hi : L1[i]? = some P := by rfl) (ho : S.own z = [P] := by rfl) (hq : S.out z () = [P'] := by rfl) (hk : k ≤ j := by omega)
    (hg : Gl X x := by rfl) (hdb : (x == ("__debug__" : Str)) = false := by decide) (he : starEach (e :: es) X.env = (false, eval e X.env) :: starEach es X.env := by rfl) (hpl : (backTo pos (starEach es X.env)).any (·.1) = false := by rfl) :
    EJ X G L (.Call (.Name x p) (e :: es) [] pos) (S.res z ()) (L1.set i P') := by
  refine EJ.perm (ej_call (Lf := L1.eraseIdx i) z g hr ha hA hp ?_ hk hg hdb he hpl) ?_
  · rw [ho]; exact (perm_at (P' := P') hi).1
  · rw [hq]; exact (perm_at hi).2
/-- f(e, ..), the arguments known in part -/
theorem ej_callE {S : FS ι Unit} (Z : ι → Prop) (g : GF ⟨X.prog, X.w, X.K, X.mg, X.base⟩ k x (spJ S)) (hr : Room j X.A) (ha : AJ X G L (e :: es) As L1) (hA : ∀ vs F, All As vs F → ∃ z, Z z ∧ S.pre z ∧ All (S.args z) vs F) (ho : ∀ z, S.own z = [] := by intro _; rfl) (hq : ∀ z, S.out z () = [] := by intro _; rfl) (hk : k ≤ j := by omega)
    (hg : Gl X x := by rfl) (hdb : (x == ("__debug__" : Str)) = false := by decide) (he : starEach (e :: es) X.env = (false, eval e X.env) :: starEach es X.env := by rfl) (hpl : (backTo pos (starEach es X.env)).any (·.1) = false := by rfl) :
    EJ X G L (.Call (.Name x p) (e :: es) [] pos) (IsEx fun z : {z // Z z} => S.res z.1 ()) L1 := fun Fr σ F H Q hE hS t => by
  obtain ⟨fa, fd, ps, Fo, hm, kp, bd⟩ := g.ex
  refine WE.of (pe_call Fo (hr.mono hk) hg hm kp bd .nil L2.pass0 wa hdb he hpl) (ha Fr σ F H _ hE hS fun vs F1 H1 x1 s1 r1 => ?_)
  obtain ⟨z, hZ, hp, hAll⟩ := hA vs F1 r1
  exact ⟨z, F1, L1 ++ Fr, hp, by rw [List.append_nil]; exact hAll, by rw [ho]; exact s1, fun y v F2 H2 x2 s2 r2 => t v F2 H2 (x1.trans x2) (by rw [hq] at s2; exact s2) ⟨⟨z, hZ⟩, r2⟩⟩
theorem ej_makeE {S : IS ι} (Z : ι → Prop) (g : GC ⟨X.prog, X.w, X.K, X.mg, X.base⟩ k x C (spJ (S.fs C))) (hr : Room j X.A) (ha : AJ X G L (e :: es) As L1) (hA : ∀ vs F, All As vs F → ∃ z, Z z ∧ S.pre z ∧ All (S.args z) vs F) (hk : k + 1 ≤ j := by omega)
    (hg : Gl X x := by rfl) (hdb : (x == ("__debug__" : Str)) = false := by decide) (he : starEach (e :: es) X.env = (false, eval e X.env) :: starEach es X.env := by rfl) (hpl : (backTo pos (starEach es X.env)).any (·.1) = false := by rfl) :
    EJ X G L (.Call (.Name x p) (e :: es) [] pos) (IsEx fun z : {z // Z z} => IsIns C S.ns (S.flds z.1)) L1 := fun Fr σ F H Q hE hS t => by
  obtain ⟨fa, fd, ps, M, Fo, hm, bd⟩ := g.ex
  refine WE.of (pe_make M Fo (hr.mono hk) hg hm bd .nil L2.pass0 wa hdb he hpl) (ha Fr σ F H _ hE hS fun vs F1 H1 x1 s1 r1 => fun y dy hy hd ne => ?_)
  obtain ⟨z, hZ, hp, hAll⟩ := hA vs F1 r1
  refine ⟨(y, z), F1, L1 ++ Fr, hp, by rw [List.append_nil]; exact ⟨rfl, hAll⟩, s1.ownI hy hd ne, fun _ v F2 H2 x2 s2 r2 => ⟨r2, ?_⟩⟩
  obtain ⟨F3, x3, s3, r3⟩ := Sep.frzI (L := AtI y C S.ns (S.flds z) :: L1) (k := 0) s2 rfl
  exact t _ F3 H2 (x1.trans (x2.trans x3)) s3 ⟨⟨z, hZ⟩, r3⟩
theorem ej_makeKE {S : IS ι} {n : Nat} {ks : List Str} {gV : List V → List V → List V} (Z : ι → Prop) (g : GCK ⟨X.prog, X.w, X.K, X.mg, X.base⟩ k x C (spJ (S.fs C)) n ks gV) (hr : Room j X.A) (ha : AJ X G L (e :: es) As L1) (hkw : KJ X G L1 kws Ks L2')
    (hA : ∀ q vs zs F, All As vs F → All Ks zs F → ∃ z, Z z ∧ S.pre z ∧ All (IsAddr q :: S.args z) (gV (.ref q :: vs) zs) F) (hn : As.length = n := by rfl) (hks' : Ks.length = ks.length := by rfl) (hk : k + 1 ≤ j := by omega)
    (hall : (backToKw pos (keywordEach kws X.env)).all (·.1.isSome) = true := by rfl) (hks : (backToKw pos (keywordEach kws X.env)).filterMap (·.1) = ks := by rfl)
    (hg : Gl X x := by rfl) (hdb : (x == ("__debug__" : Str)) = false := by decide) (he : starEach (e :: es) X.env = (false, eval e X.env) :: starEach es X.env := by rfl) (hpl : ((backTo pos (starEach (e :: es) X.env)).any (·.1) || (backToKw pos (keywordEach kws X.env)).any (·.1.isNone)) = false := by rfl) :
    EJ X G L (.Call (.Name x p) (e :: es) kws pos) (IsEx fun z : {z // Z z} => IsIns C S.ns (S.flds z.1)) L2' := fun Fr σ F H Q hE hS t => by
  obtain ⟨fa, fd, ps, gg, M, Fo, hm, bd⟩ := g.ex
  refine WE.of (pe_makeN M Fo (hr.mono hk) hg hm bd L2.pass0 wa wk hall hks hdb he hpl) (ha Fr σ F H _ hE hS fun vs F1 H1 x1 s1 r1 => hkw Fr σ F1 H1 _ (hE.mono x1) s1 fun zs F2 H2 x2 s2 r2 => ⟨r1.len.symm.trans hn, r2.len.symm.trans hks', fun y dy hy hd ne => ?_⟩)
  obtain ⟨z, hZ, hp, hAll⟩ := hA y vs zs F2 (r1.mono x2) r2
  refine ⟨(y, z), F2, L2' ++ Fr, hp, hAll, s2.ownI hy hd ne, fun _ v F3 H3 x3 s3 r3 => ⟨r3, ?_⟩⟩
  obtain ⟨F4, x4, s4, r4⟩ := Sep.frzI (L := AtI y C S.ns (S.flds z) :: L2') (k := 0) s3 rfl
  exact t _ F4 H3 (x1.trans (x2.trans (x3.trans x4))) s4 ⟨⟨z, hZ⟩, r4⟩
theorem ix_lstE {tg iter : Expr} (g : α → MP) (d : α) (l : κ → List α) (h : EJ X G L iter (IsEx fun y => IsLst X.K ((l y).map g)) L1) : IX X G L tg iter (fun y => (l y).length) (fun y i => g ((l y).getD i d)) (fun _ => L1) := fun Fr σ F H Rr hE hS k =>
  WI.of (pi_list we) (h Fr σ F H _ hE hS fun v F1 H1 x1 s1 ⟨y, t, vs, e1, h1, h2⟩ => ⟨t, e1, ⟨vs, seqL_mono s1.ext h1⟩, k y _ F1 H1 x1 s1 (by
    have := it_lst (X := X) h1 h2 (fun i => g ((l y).getD i d)) (mapAt g (l y) d)
    rwa [List.length_map] at this)⟩)
theorem EJ.pick {R : Nat → α → MP} (n : Nat) (d : α) (h : EJ X G L e (IsLst X.K Rs) L1) (hR : Rs = (List.range n).map fun i => IsEx (R i)) : EJ X G L e (IsEx fun f : Nat → α => IsLst X.K ((List.range n).map fun i => R i (f i))) L1 := h.to fun v F ⟨t, vs, e1, h1, h2⟩ => by
  subst hR
  obtain ⟨f, hf⟩ := all_pick d n h2
  exact ⟨f, t, vs, e1, h1, hf⟩
theorem tupEx {K : PySem.W.Frag} {A : MP} {B : α → MP} : ∀ v F, (IsTup K [A, IsEx B]).p v F → (IsEx fun y => IsTup K [A, B y]).p v F := fun v F ⟨t, vs, e1, h1, h2⟩ => by
  obtain ⟨u, w, e2, h3, y, h4⟩ := all2 h2
  subst e2
  exact ⟨y, t, _, e1, h1, h3, h4, trivial⟩
theorem all_snoc {As : List MP} {B : MP} {F : Hp} : ∀ {vs : List V}, All (As ++ [B]) vs F → ∃ us v, vs = us ++ [v] ∧ All As us F ∧ B.p v F := by
  induction As with
  | nil =>
    intro vs h
    match vs, h with
    | [v], h => exact ⟨[], v, rfl, trivial, h.1⟩
    | [], h => exact h.elim
    | _ :: _ :: _, h => exact h.2.elim
  | cons A As ih =>
    intro vs h
    match vs, h with
    | [], h => exact h.elim
    | v :: vs, h =>
      obtain ⟨us, w, e, h1, h2⟩ := ih h.2
      exact ⟨v :: us, w, by rw [e]; rfl, ⟨h.1, h1⟩, h2⟩
theorem atl_pick {R : α → MP} {h : Hp} (w : (AtL q (Rs ++ [IsEx R])).p F h) : ∃ y, (AtL q (Rs ++ [R y])).p F h := by
  obtain ⟨vs, e, r⟩ := w
  obtain ⟨us, v, rfl, h1, y, h2⟩ := all_snoc r
  exact ⟨y, _, e, h1.append ⟨h2, trivial⟩⟩
theorem accFilter {α : Type} (t : α → Bool) (g : α → MP) (d : α) (l : List α) : accOf (fun i => t (l.getD i d)) (fun i => g (l.getD i d)) l.length = (l.filter t).map g := by
  have aux : ∀ i, i ≤ l.length → accOf (fun i => t (l.getD i d)) (fun i => g (l.getD i d)) i = ((l.take i).filter t).map g := by
    intro i
    induction i with
    | zero => intro _; rfl
    | succ i ih =>
      intro h
      have hi : i < l.length := h
      have e : l.getD i d = l[i] := by rw [List.getD_eq_getElem?_getD, List.getElem?_eq_getElem hi]; rfl
      rw [List.take_succ, List.getElem?_eq_getElem hi, List.filter_append, List.map_append, ← ih (Nat.le_of_lt hi)]
      show (if t (l.getD i d) = true then _ else _) = _
      rw [e]
      cases z : t l[i] with
      | true => rw [if_pos rfl]; simp [z, hi]
      | false => rw [if_neg Bool.false_ne_true]; simp [z]
  have := aux l.length (Nat.le_refl _)
  rwa [List.take_length] at this
/-- two new lists in one -/
theorem ej_cat {Bs : List MP} (ha : EX X G L a (fun q => IsAddr q) (fun q => AtL q As :: L1)) (hb : ∀ q, EX X G (AtL q As :: L1) b (fun r => IsAddr r) (fun r => AtL r Bs :: AtL q As :: L2')) (hz : As.length + Bs.length ≤ 100000) : EJ X G L (.BinOp a .Add b pos) (IsLst X.K (As ++ Bs)) L2' := fun Fr σ F H Q hE hS t =>
  WE.of (pe_op op_cat we we) (ha Fr σ F H _ hE hS fun q v F1 H1 x1 s1 r1 => hb q Fr σ F1 H1 _ (hE.mono x1) s1 fun r u F2 H2 x2 s2 r2 => by
    obtain ⟨ys, h1, h2, _⟩ := Sep.lst (L := AtL r Bs :: AtL q As :: L2') (k := 0) s2 rfl
    obtain ⟨xs, h3, h4, _⟩ := Sep.lst (L := AtL r Bs :: AtL q As :: L2') (k := 1) s2 rfl
    refine ⟨q, r, xs, ys, r1, r2, h3, h1, by rw [← h2.len, ← h4.len]; exact small_line hz, fun w hw => ?_⟩
    obtain ⟨x3, s3, r3⟩ := put_lst (X := X) s2 hw (h4.append h2)
    exact t _ _ _ (x1.trans (x2.trans x3)) s3.drop.drop r3)
end
end J
set_option maxHeartbeats 0
/-! JH: the head's facts: properties' getters, tuples by address, classes without __init__, kinds. -/
namespace JH
open PySem PySem.Spec PyProof.Rows L2 He J
/-- a property's getter -/
def getP (x f : Str) (K : PySem.W.Frag) : Addr := match PySem.W.recIn K (ma K (ga K x) f) "property" with
  | some (.ref g :: _) => g
  | _ => 0
def propB (K : PySem.W.Frag) (x f : Str) : Bool := eqO (PySem.W.findIn K (.ref (ga K x)) f) (some (some (.ref (ma K (ga K x) f)))) && (eqO (PySem.W.specialIn K (.ref (ma K (ga K x) f)) "__get__") (some (some (.builtin "property.__get__"))) &&
  (decide (PySem.W.takesIn K (.ref (ma K (ga K x) f)) = some true) && (match PySem.W.recIn K (ma K (ga K x) f) "property" with
    | some (.ref _ :: _) => true
    | _ => false)))
theorem propB_ok {K : PySem.W.Frag} {x f : Str} (h : propB K x f = true) : PropOf K (ga K x) f (ma K (ga K x) f) (getP x f K) := by
  obtain ⟨h1, h⟩ := ba h
  obtain ⟨h2, h⟩ := ba h
  obtain ⟨h3, h4⟩ := ba h
  refine ⟨eqO_ok h1, eqO_ok h2, of_decide_eq_true h3, ?_⟩
  unfold getP
  split at h4
  · rename_i g r e; exact ⟨r, by rw [e]⟩
  · cases h4
/-- a def at a place of one's own -/
structure PgD where
  adr : PySem.W.Frag → Addr
  name : Str
  qual : Str
  params : Arguments
  body : List Stmt
  scope : Scope
def PgD.val (d : PgD) : FnW := some (d.name, d.qual, d.params, .stmts d.body, d.scope, mainGlobals, [], builtinsNs)
def pgW (K : PySem.W.Frag) (a : Addr) : FnW := match K.lookup a with
  | some ⟨_, _, .func fd, _⟩ => some (fd.name, fd.qualname, fd.params, fd.body, fd.scope, fd.globals, fd.closure, fd.builtins)
  | _ => none
def PgD.ok (K : PySem.W.Frag) (d : PgD) : Bool := PySem.W.keepIn K (.ref (d.adr K)) && (match K.lookup (d.adr K) with
  | some ⟨_, _, .func fd, _⟩ => PySem.W.codeIn K fd.code d.qual && (dflB K fd.defaults [] && kwdB K fd.kwdefaults [])
  | _ => false)
theorem PgD.funD {K : PySem.W.Frag} {d : PgD} (e : pgW K (d.adr K) = d.val) (c : d.ok K = true) : ∃ fd, FunD K d.name d.qual d.params d.body d.scope [] [] (d.adr K) fd := by
  obtain ⟨kp, c2⟩ := ba c
  unfold pgW at e
  cases q : K.lookup (d.adr K) with
  | none =>
    rw [q] at c2
    cases c2
  | some o =>
    obtain ⟨oc, od, dt, osl⟩ := o
    rw [q] at c2 e
    cases dt with
    | func fd =>
      obtain ⟨n1, n2, n3, n4, n5, n6, n7, n8, n9, n10, n11, n12, n13, n14, n15⟩ := fd
      have e2 : (some (n1, n2, n3, n4, n5, n6, n7, n15) : FnW) = some (d.name, d.qual, d.params, .stmts d.body, d.scope, mainGlobals, [], builtinsNs) := e
      simp only [Option.some.injEq, Prod.mk.injEq] at e2
      obtain ⟨h1, h2, h3, h4, h5, h6, h7, h8⟩ := e2
      subst h1 h2 h3 h4 h5 h6 h7 h8
      have c3 : (PySem.W.codeIn K n13 d.qual && (dflB K n8 [] && kwdB K n9 [])) = true := c2
      obtain ⟨k1, k2⟩ := ba c3
      obtain ⟨k3, k4⟩ := ba k2
      exact ⟨_, ⟨oc, od, n8, n9, n10, n11, n12, n13, n14, osl, rfl, q, k1, dflB_ok k3, kwdB_ok k4⟩, kp⟩
    | _ => cases c2
/-- the keyword default x of the def at f, if it is an object -/
def kwdAt (f : Str × Option Str) (x : Str) (K : PySem.W.Frag) : Addr := match K.lookup (fAd K f) with
  | some ⟨_, _, .func fd, _⟩ => (match fd.kwdefaults with
    | .ref D => (match PySem.W.nsIn K D x with
      | some (some (.ref a)) => a
      | _ => 0)
    | _ => 0)
  | _ => 0
/-- the value at a key of a dict of the top, if it is an object -/
def dicAt (x k : Str) (K : PySem.W.Frag) : Addr := match PySem.W.nsIn K (ga K x) k with
  | some (some (.ref a)) => a
  | _ => 0
def dicB (K : PySem.W.Frag) (x k : Str) : Bool := eqO (PySem.W.nsIn K (ga K x) k) (some (some (.ref (dicAt x k K))))
def tupA (K : PySem.W.Frag) (a : Addr) (vs : List Dv) : Bool := match K.lookup a with
  | some ⟨.type c, _, .seq its _, _⟩ => decide (c = "tuple") && (decide (its.size ≤ 1000) && relAll (vs.map (Dv.v K)) its.toList)
  | _ => false
theorem tupA_ok {K : PySem.W.Frag} {a : Addr} {vs : List Dv} (h : tupA K a vs = true) (H : Hp) : SqT K H a (vs.map (Dv.v K)) := by
  unfold tupA at h
  cases q : K.lookup a with
  | none =>
    rw [q] at h
    cases h
  | some o =>
    obtain ⟨oc, od, dt, osl⟩ := o
    rw [q] at h
    cases oc with
    | type c =>
      cases dt with
      | seq its n =>
        obtain ⟨h1, h2⟩ := ba (show (decide (c = "tuple") && (decide (its.size ≤ 1000) && relAll (vs.map (Dv.v K)) its.toList)) = true from h)
        obtain ⟨h3, h4⟩ := ba h2
        exact .inr ⟨_, its, n, q, congrArg Value.type (of_decide_eq_true h1), rfl, small_line (Nat.le_trans (of_decide_eq_true h3) (by decide)), relAll_ok h4⟩
      | _ => cases h
    | _ => cases dt <;> cases h
def mk0B (K : PySem.W.Frag) (C : Addr) : Bool := PySem.W.makesIn K C && (eqO (PySem.W.findIn K (.ref C) "__init__") (some (some (.builtin "object.__init__"))) && PySem.W.keepIn K (.ref C))
theorem mk0B_ok {K : PySem.W.Frag} {C : Addr} (h : mk0B K C = true) : Mk0 K C := by
  obtain ⟨h1, h⟩ := ba h
  obtain ⟨h2, h3⟩ := ba h
  exact ⟨h1, eqO_ok h2, h3⟩
def ityB (K : PySem.W.Frag) (C : Addr) : Bool := eqO (PySem.W.findIn K (.ref C) "__class__") (some (some (.builtin "object.__class__"))) && (eqO (PySem.W.specialIn K (.builtin "object.__class__") "__get__") (some (some (.builtin "getset_descriptor.__get__"))) &&
  (decide (PySem.W.takesIn K (.builtin "object.__class__") = some true) && decide (PySem.W.mroIn K C (.type "object") = some true)))
theorem ityB_ok {K : PySem.W.Frag} {C : Addr} (c : Cls K C) (h : ityB K C = true) : ITy K C := by
  obtain ⟨h1, h⟩ := ba h
  obtain ⟨h2, h⟩ := ba h
  obtain ⟨h3, h4⟩ := ba h
  exact ⟨c, eqO_ok h1, eqO_ok h2, of_decide_eq_true h3, of_decide_eq_true h4⟩
def kitB (K : PySem.W.Frag) (C D : Addr) (b : Bool) : Bool := decide (PySem.W.kitOne K (.ref C) (.ref D) = some b)
/-! ### the hook, over a list of addresses -/
/-- List.map under another head: the kernel compares the items, not the functions -/
def mapV {α β : Type} (f : α → β) : List α → List β
  | [] => []
  | a :: l => f a :: mapV f l
theorem mapV_eq {α β : Type} (f : α → β) : ∀ l : List α, mapV f l = l.map f
  | [] => rfl
  | a :: l => congrArg (f a :: ·) (mapV_eq f l)
abbrev AlJ : Type := AlT × Bool × List FnW
def obsJ (fa : List Fa) (fn : List DefD) (pg : List PgD) (ts : List Tab) (ex : PySem.W.Frag → Bool) (K : PySem.W.Frag) : AlJ := (((((fa.all fun f => f.ok K) && fn.all fun d => d.ok K), fn.map fun d => fnW K d.at_), ts.map fun t => dicW K (t.1 K)), ex K && pg.all fun d => d.ok K, pg.map fun d => pgW K (d.adr K))
def valJ (fn : List DefD) (pg : List PgD) (ts : List Tab) (w : World) : AlJ := (((true, mapV DefD.val fn), mapV (fun t => some (keysIn w.params t.2)) ts), true, mapV PgD.val pg)
def obsJG (as : List Addr) (fa : List Fa) (fn : List DefD) (pg : List PgD) (ts : List Tab) (ex : PySem.W.Frag → Bool) (g : Addr → Option Obj) : AlJ := obsJ fa fn pg ts ex (frG g as)
def SaysJ (fa : List Fa) (fn : List DefD) (pg : List PgD) (ts : List Tab) (ex : PySem.W.Frag → Bool) (w : World) (K : PySem.W.Frag) : Prop := obsJ fa fn pg ts ex K = valJ fn pg ts w
def hookJ (as : List Addr) (fa : List Fa) (fn : List DefD) (pg : List PgD) (ts : List Tab) (ex : PySem.W.Frag → Bool) : PySem.W.Hook where
  α := AlJ
  obs := fun s => obsJG as fa fn pg ts ex s.heap.get?
  val := fun w => valJ fn pg ts w
  says := fun w h => ∃ K : PySem.W.Frag, K.In h ∧ SaysJ fa fn pg ts ex w K
  of := fun _ _ e => ⟨_, frG_in, e⟩
  keeps := fun _ _ _ ⟨K, hK, c⟩ k => ⟨K, PySem.W.Frag.In.keeps hK k, c⟩
theorem obsJG_eq {as : List Addr} {fa : List Fa} {fn : List DefD} {pg : List PgD} {ts : List Tab} {ex : PySem.W.Frag → Bool} {g : Addr → Option Obj} {s : Shared} (h : ∀ a, g a = s.heap.get? a) : obsJG as fa fn pg ts ex g = (hookJ as fa fn pg ts ex).obs s := by
  have e : g = s.heap.get? := funext h
  rw [e] <;> rfl
section
variable {fa : List Fa} {fn : List DefD} {pg : List PgD} {ts : List Tab} {ex : PySem.W.Frag → Bool} {w : World} {K : PySem.W.Frag}
theorem SaysJ.t (c : SaysJ fa fn pg ts ex w K) : SaysT fa fn ts w K := by
  have e : ((((fa.all fun f => f.ok K) && fn.all fun d => d.ok K), fn.map fun d => fnW K d.at_), ts.map fun t => dicW K (t.1 K)) = (((true, mapV DefD.val fn), mapV (fun t => some (keysIn w.params t.2)) ts) : AlT) := congrArg (fun z : AlJ => z.1) c
  rw [mapV_eq, mapV_eq] at e
  exact e
theorem SaysJ.more (c : SaysJ fa fn pg ts ex w K) : ex K = true := (ba (show (ex K && pg.all fun d => d.ok K) = true from congrArg (fun z : AlJ => z.2.1) c)).1
theorem SaysJ.getter (c : SaysJ fa fn pg ts ex w K) (i : Nat) {d : PgD} (h : pg[i]? = some d := by rfl) : ∃ fd, FunD K d.name d.qual d.params d.body d.scope [] [] (d.adr K) fd := by
  have c2 := (ba (show (ex K && pg.all fun d => d.ok K) = true from congrArg (fun z : AlJ => z.2.1) c)).2
  have e : pg.map (fun d => pgW K (d.adr K)) = pg.map PgD.val := (congrArg (fun z : AlJ => z.2.2) c).trans (mapV_eq _ _)
  have e2 : (pg.map fun d => pgW K (d.adr K))[i]? = (pg.map PgD.val)[i]? := by rw [e]
  rw [List.getElem?_map, List.getElem?_map, h] at e2
  exact PgD.funD (Option.some.inj e2) (List.all_eq_true.mp c2 d (List.mem_of_getElem? h))
end
end JH
/-! k92: the defs of the law. -/
namespace K92
open PySem PySem.Spec PyProof.Rows L2 J
def top (i : Nat) : Stmt := PySem.Challenge.pw_surenear_k92_counts_bound_no_record_too.main.body.getD i (.Pass ⟨0, 0, 0, 0⟩)
abbrev FnD0 (W : Wd) (x : Str) (st : Stmt) (f : Addr) (fd : FuncData) : Prop := FunD W.K x x (defArgs st) (defBody st) (defScope st) [] [] f fd

/-! ### the script's numbers -/
def rowOf (s : List Int) (k : Nat) : Int :=
  let c0 := if k < s.length then s.getD k 0 else 0
  let c1 := if c0 < 0 then -2 * c0 - 1 else c0
  if c1 < 10 ^ 9 then
    let a := (c1 * 48271 + k * 69621 + 11) % 2147483647
    let b := (a * 16807 + c1 * 7 + k + 5) % 2147483629
    let c := (b * 39373 + a * b + 3) % 2147483587
    a + b * 2147483647 + c * 2147483647 ^ 2
  else c1
structure LS where
  k : Nat
  c : Int
def fill (s : List Int) (m : Int) (z : LS) : LS := if z.c < m then ⟨z.k + 1, rowOf s z.k⟩ else z
def dr (s : List Int) (m : Int) (z : LS) : Int := (fill s m z).c % m
def nx (s : List Int) (m : Int) (z : LS) : LS := ⟨(fill s m z).k, (fill s m z).c / m⟩
abbrev AtS (K : PySem.W.Frag) (st : Addr) (s : List Int) (z : LS) : Atm := AtL st [IsLst K (s.map IsInt), IsInt (z.k : Int), IsInt z.c]

def sRow (K : PySem.W.Frag) : FS (List Int × Nat) Unit where
  args := fun z => [IsLst K (z.1.map IsInt), IsInt (z.2 : Int)]
  res := fun z _ => IsInt (rowOf z.1 z.2)
theorem scRow : FnScope ["_law_script", "_law_k", "_law_cell", "_law_a", "_law_b", "_law_c"] ["_law_script", "_law_k"] (defScope (top 75)) := ⟨rfl, rfl, rfl, by decide +kernel, rfl, by decide +kernel, by decide +kernel⟩
theorem ok_row {W : Wd} {f : Addr} {fd : FuncData} (Fn : FnD0 W "_law_row" (top 75) f fd) (hlen : W.mg "len" = none) (hint : W.mg "int" = none) : FnK W 1 f fd ["_law_script", "_law_k"] (spJ (sRow W.K)) := by
  refine fn_ok (sRow W.K) Fn scRow (fun _ => rfl) fun r hr ⟨s, k⟩ F0 Fr _ => ?_
  refine sj_set 2 ej_int ?_ scRow.nd
  refine sj_ifJ [some (IsLst W.K (s.map IsInt)), some (IsInt k), some (IsInt (if k < s.length then s.getD k 0 else 0)), none, none, none] [] (tj_lt (ej_var 1) (ej_lenL hlen (aj_cons (ej_var 0) aj_nil))) (fun h => ?_) (fun h => ?_) ?_
  · have h' : k < s.length := by simpa using h
    refine sj_set 2 (ej_ixL (n := k) (ej_var 0) (ej_var 1) (by rw [List.getElem?_map, List.getElem?_eq_getElem h']; rfl)) ?_ scRow.nd
    rw [if_pos h', show s.getD k 0 = s[k] by simp [List.getD, h']]
    exact sj_nil fun _ _ h => h
  · have h' : ¬ k < s.length := by simpa using h
    rw [if_neg h']
    exact sj_nil fun _ _ h => h
  generalize hc0 : (if k < s.length then s.getD k 0 else 0) = c0
  refine sj_ifJ [some (IsLst W.K (s.map IsInt)), some (IsInt k), some (IsInt (if c0 < 0 then -2 * c0 - 1 else c0)), none, none, none] [] (tj_lt (ej_var 2) ej_int) (fun h => ?_) (fun h => ?_) ?_
  · have h' : c0 < 0 := by simpa using h
    rw [if_pos h']
    exact sj_set 2 (ej_sub (ej_mul (ej_neg ej_int) (ej_var 2) (Or.inl ⟨by decide, by decide⟩)) ej_int) (sj_nil fun _ _ h => h) scRow.nd
  · have h' : ¬ c0 < 0 := by simpa using h
    rw [if_neg h']
    exact sj_nil fun _ _ h => h
  generalize hc1 : (if c0 < 0 then -2 * c0 - 1 else c0) = c1
  have e : rowOf s k = if c1 < 10 ^ 9 then
    ((c1 * 48271 + k * 69621 + 11) % 2147483647) + ((((c1 * 48271 + k * 69621 + 11) % 2147483647) * 16807 + c1 * 7 + k + 5) % 2147483629) * 2147483647 + (((((c1 * 48271 + k * 69621 + 11) % 2147483647) * 16807 + c1 * 7 + k + 5) % 2147483629 * 39373 + ((c1 * 48271 + k * 69621 + 11) % 2147483647) * ((((c1 * 48271 + k * 69621 + 11) % 2147483647) * 16807 + c1 * 7 + k + 5) % 2147483629) + 3) % 2147483587) * 2147483647 ^ 2
    else c1 := by
    unfold rowOf
    simp only [hc0, hc1]
  refine sj_if (tj_lt (ej_var 2) (ej_pow ej_int ej_int ⟨by decide, by decide, by decide⟩)) (fun h => ?_) (fun h => ?_)
  · have h' : c1 < 10 ^ 9 := by simpa using h
    refine sj_set 3 (ej_mod (ej_int1 hint (aj_cons (ej_add (ej_add (ej_mul (ej_var 2) ej_int (Or.inr ⟨by decide, by decide⟩)) (ej_mul (ej_var 1) ej_int (Or.inr ⟨by decide, by decide⟩))) ej_int) aj_nil)) ej_int (by decide)) ?_ scRow.nd
    generalize ha : (c1 * 48271 + k * 69621 + 11) % 2147483647 = a at e
    refine sj_set 4 (ej_mod (ej_int1 hint (aj_cons (ej_add (ej_add (ej_add (ej_mul (ej_var 3) ej_int (Or.inr ⟨by decide, by decide⟩)) (ej_mul (ej_var 2) ej_int (Or.inr ⟨by decide, by decide⟩))) (ej_var 1)) ej_int) aj_nil)) ej_int (by decide)) ?_ scRow.nd
    generalize hb : (a * 16807 + c1 * 7 + k + 5) % 2147483629 = b at e
    have ba : 0 ≤ a ∧ a < 2147483647 := by omega
    refine sj_set 5 (ej_mod (ej_int1 hint (aj_cons (ej_add (ej_add (ej_mul (ej_var 4) ej_int (Or.inr ⟨by decide, by decide⟩)) (ej_mul (ej_var 3) (ej_var 4) (Or.inl ⟨by omega, by omega⟩))) ej_int) aj_nil)) ej_int (by decide)) ?_ scRow.nd
    refine sj_set 2 (ej_add (ej_add (ej_var 3) (ej_mul (ej_var 4) ej_int (Or.inr ⟨by decide, by decide⟩))) (ej_mul (ej_var 5) (ej_pow ej_int ej_int ⟨by decide, by decide, by decide⟩) (Or.inr ⟨by decide, by decide⟩))) ?_ scRow.nd
    refine sj_end (sj_ret () (ej_var 2) rfl fun v F h => ?_)
    rw [if_pos h'] at e
    show (IsInt (rowOf s k)).p v F
    rw [e]
    exact h
  · have h' : ¬ c1 < 10 ^ 9 := by simpa using h
    refine sj_end (sj_ret () (ej_var 2) rfl fun v F h => ?_)
    rw [if_neg h'] at e
    show (IsInt (rowOf s k)).p v F
    rw [e]
    exact h

def sNext (K : PySem.W.Frag) : FS (Addr × List Int × LS × Int) Unit where
  args := fun z => [IsAddr z.1, IsInt z.2.2.2]
  own := fun z => [AtS K z.1 z.2.1 z.2.2.1]
  res := fun z _ => IsInt (dr z.2.1 z.2.2.2 z.2.2.1)
  out := fun z _ => [AtS K z.1 z.2.1 (nx z.2.1 z.2.2.2 z.2.2.1)]
  pre := fun z => 0 < z.2.2.2 ∧ z.2.2.2 ≤ 1000
theorem scNext : FnScope ["_law_state", "_law_many", "_law_drawn"] ["_law_state", "_law_many"] (defScope (top 76)) := ⟨rfl, rfl, rfl, by decide +kernel, rfl, by decide +kernel, by decide +kernel⟩
theorem cdiv {c m : Int} (h : 0 < m ∧ m ≤ 1000) : CDivW c m := wide_div (b := 10) h.1 (by omega) (by decide) (by decide)
theorem ok_next {W : Wd} {f : Addr} {fd : FuncData} (Fn : FnD0 W "_law_next" (top 76) f fd) (hint : W.mg "int" = none) (gRow : GF W 1 "_law_row" (spJ (sRow W.K))) : FnK W 2 f fd ["_law_state", "_law_many"] (spJ (sNext W.K)) := by
  refine fn_ok (sNext W.K) Fn scNext (fun _ => rfl) fun r hr ⟨st, s, z, m⟩ F0 Fr hp => ?_
  have hp : 0 < m ∧ m ≤ 1000 := hp
  refine sj_ifJ [some (IsAddr st), some (IsInt m), none] [AtS W.K st s (fill s m z)] (tj_lt (ej_ixO 0 (n := 2) (ej_var 0) ej_int) (ej_var 1)) (fun h => ?_) (fun h => ?_) ?_
  · have h' : z.c < m := by simpa using h
    have e : fill s m z = ⟨z.k + 1, rowOf s z.k⟩ := if_pos h'
    rw [e]
    refine sj_store 0 (n := 2) (ej_call (s, z.k) gRow hr (aj_cons (ej_ixO 0 (n := 0) (ej_var 0) ej_int) (aj_cons (ej_ixO 0 (n := 1) (ej_var 0) ej_int) aj_nil))) (ej_var 0) ej_int ?_
    refine sj_store 0 (n := 1) (ej_add (ej_ixO 0 (n := 1) (ej_var 0) ej_int) ej_int) (ej_var 0) ej_int ?_
    exact sj_nil fun _ _ h => h
  · have h' : ¬ z.c < m := by simpa using h
    have e : fill s m z = z := if_neg h'
    rw [e]
    exact sj_nil fun _ _ h => h
  refine sj_set 2 (ej_mod (ej_int1 hint (aj_cons (ej_ixO 0 (n := 2) (ej_var 0) ej_int) aj_nil)) (ej_var 1) hp.1) ?_ scNext.nd
  refine sj_store 0 (n := 2) (ej_fdiv (ej_ixO 0 (n := 2) (ej_var 0) ej_int) (ej_var 1) (cdiv hp)) (ej_var 0) ej_int ?_
  exact sj_ret () (ej_var 2) rfl fun v F h => h
end K92
namespace K92
open PySem PySem.Spec PyProof.Rows L2 J

/-! ### the law's numbers, told by their range only -/
abbrev IsR (m : Int) : MP := IsEx fun y : {d : Int // 0 ≤ d ∧ d < m} => IsInt y.1
abbrev AtSt (K : PySem.W.Frag) (st : Addr) : Atm := AtEx fun z : List Int × LS => AtS K st z.1 z.2
def sNx (K : PySem.W.Frag) : FS (Addr × Int) Unit where
  args := fun z => [IsAddr z.1, IsInt z.2]
  own := fun z => [AtSt K z.1]
  res := fun z _ => IsR z.2
  out := fun z _ => [AtSt K z.1]
  pre := fun z => 0 < z.2 ∧ z.2 ≤ 1000
theorem ok_nx {W : Wd} {k : Nat} {f : Addr} {fd : FuncData} {ps : List Str} (h : FnK W k f fd ps (spJ (sNext W.K))) : FnK W k f fd ps (spJ (sNx W.K)) := h.imp fun vs H Q E ⟨⟨st, m⟩, F, Fr, hp, ha, hs, q⟩ => by
  obtain ⟨h1, ⟨⟨s, z⟩, p1⟩, x1, _, t, _⟩ := hs.at (i := 0) (P := AtSt W.K st) rfl
  have := t (AtS W.K st s z) h1 p1 (fun _ z => z) H (fun a o z => x1 a o z) fun _ _ => rfl
  refine ⟨(st, s, z, m), F, Fr, hp, ha, this, fun y v F' H' x s' r => q () v F' H' x ?_ ?_⟩
  · exact s'.wk (L := [AtS W.K st s (nx s m z)]) (k := 0) rfl fun F h p => ⟨(s, nx s m z), p⟩
  · have hp : 0 < m ∧ m ≤ 1000 := hp
    exact ⟨⟨dr s m z, Int.emod_nonneg _ (by omega), Int.emod_lt_of_pos _ hp.1⟩, r⟩

/-! ### what the head gives -/
abbrev cl (W : Wd) (x : Str) : Addr := He.ga W.K x
structure Fx (W : Wd) : Prop where
  len : W.mg "len" = none
  int : W.mg "int" = none
  min : W.mg "min" = none
  max : W.mg "max" = none
  tuple : W.mg "tuple" = none
  list : W.mg "list" = none
  zip : W.mg "zip" = none
  range : W.mg "range" = none
  isi : W.mg "isinstance" = none
  cRec : CF W.K (cl W "Record") ["name", "vector", "fields", "words"]
  cSch : CF W.K (cl W "Schema") ["size", "width", "measure", "fields"]
  cTok : CF W.K (cl W "Token") ["kind", "value", "place"]
  cRdr : CF W.K (cl W "Reader") ["schema", "stop", "tokens", "at", "depth"]
  cQn : CF W.K (cl W "Question") ["schema", "query", "condition"]
  cBnd : CF W.K (cl W "Bound") ["cost", "name", "can"]
  cQry : CF W.K (cl W "Query") ["vector", "near", "words", "text", "most"]
  cCnt : CF W.K (cl W "Counts") ["words"]
  mostCount : ∃ t, W.mg "MOST_COUNT" = some (.int 15 t)
  gRanges : W.mg "RANGES" = some (.ref (cl W "RANGES"))
  gMeasures : W.mg "MEASURES" = some (.ref (cl W "MEASURES"))
  gKinds : W.mg "KINDS" = some (.ref (cl W "KINDS"))
  gWords : W.mg "WORDS" = some (.ref (cl W "WORDS"))
  dRanges : ∃ es n, KDict W.K W.w (cl W "RANGES") es n
  rBit : ∃ a, PySem.W.nsIn W.K (cl W "RANGES") "bit" = some (some (.ref a)) ∧ ∀ H, SqT W.K H a [.int 0, .int 1]
  rSmall : ∃ a, PySem.W.nsIn W.K (cl W "RANGES") "small" = some (some (.ref a)) ∧ ∀ H, SqT W.K H a [.int (-128), .int 127]
  tMeasures : ∀ H, SqT W.K H (cl W "MEASURES") [.str "square", .str "dot", .str "bits"]
  tKinds : ∀ H, SqT W.K H (cl W "KINDS") [.str "integer", .str "text", .str "flag"]
  tWords : ∀ H, SqT W.K H (cl W "WORDS") [.str "every", .str "has", .str "in", .str "and", .str "or", .str "not", .str "true", .str "false"]

/-! ### numbers -/
/-- summed up over the places -/
def accI (f : Nat → Int) : Nat → Int
  | 0 => 0
  | i + 1 => accI f i + f i
structure PV where
  a : List Int
  b : List Int
def PV.ok (z : PV) : Prop := z.a.length = z.b.length ∧ (∀ x ∈ z.a, -1000 ≤ x ∧ x ≤ 1000) ∧ ∀ x ∈ z.b, -1000 ≤ x ∧ x ≤ 1000
def PV.x (z : PV) (i : Nat) : Int := z.a.getD i 0
def PV.y (z : PV) (i : Nat) : Int := z.b.getD i 0
theorem getD_mem {l : List Int} {i : Nat} (h : i < l.length) : l.getD i 0 ∈ l := by
  rw [List.getD_eq_getElem?_getD, List.getElem?_eq_getElem h]; exact List.getElem_mem h
abbrev IsVec (K : PySem.W.Frag) (l : List Int) : MP := IsTup K (l.map IsInt)
def sNum (K : PySem.W.Frag) (g : PV → Nat → Int) : FS PV Unit where
  args := fun z => [IsVec K z.a, IsVec K z.b]
  res := fun z _ => IsInt (accI (g z) z.a.length)
  pre := PV.ok
def gInner (z : PV) (i : Nat) : Int := z.x i * z.y i
def gDist (z : PV) (i : Nat) : Int := (z.x i - z.y i) * (z.x i - z.y i)
def gDiff (z : PV) (i : Nat) : Int := if z.x i ≠ z.y i then 1 else 0
theorem sc26 : FnScope ["a", "b", "total", "x", "y"] ["a", "b"] (defScope (top 26)) := ⟨rfl, rfl, rfl, by decide +kernel, rfl, by decide +kernel, by decide +kernel⟩
theorem sc27 : FnScope ["a", "b", "total", "x", "y"] ["a", "b"] (defScope (top 27)) := ⟨rfl, rfl, rfl, by decide +kernel, rfl, by decide +kernel, by decide +kernel⟩
theorem sc28 : FnScope ["a", "b", "total", "x", "y"] ["a", "b"] (defScope (top 28)) := ⟨rfl, rfl, rfl, by decide +kernel, rfl, by decide +kernel, by decide +kernel⟩
section
variable {W : Wd} {f : Addr} {fd : FuncData}
theorem ok_inner (fx : Fx W) (Fn : FnD0 W "inner" (top 26) f fd) : FnK W 1 f fd ["a", "b"] (spJ (sNum W.K gInner)) := by
  refine fn_ok (sNum W.K gInner) Fn sc26 (fun _ => rfl) fun r hr z F0 Fr hp => ?_
  obtain ⟨hl, ha, hb⟩ := hp
  refine sj_set 2 ej_int ?_ sc26.nd
  refine sj_for [3, 4] (fun _ => True) (fun i => [some (IsVec W.K z.a), some (IsVec W.K z.b), some (IsInt (accI (gInner z) i)), none, none]) (fun i => [some (IsVec W.K z.a), some (IsVec W.K z.b), some (IsInt (accI (gInner z) i)), some (IsInt (z.x i)), some (IsInt (z.y i))]) (fun _ => [])
    (ij_zipT (n := z.a.length) (fun i => IsInt (z.x i)) (fun i => IsInt (z.y i)) fx.zip (aj_cons (ej_var 0) (aj_cons (ej_var 1) aj_nil)) (by simp [hl]) (mapAt _ _ 0) (mapAt _ _ 0)) trivial (fun i hi _ => ?_) (fun F1 x1 i hi _ => ?_) (fun _ => ?_)
  · exact gj_tup (gjs_cons (gj_name 3 (by decide) sc26.nd) (gjs_cons (gj_name 4 (by decide) sc26.nd) gjs_nil))
  · refine sj_set 2 (ej_add (ej_var 2) (ej_mul (ej_var 3) (ej_var 4) ?_)) (sj_turn trivial) sc26.nd
    · have := ha _ (getD_mem hi)
      exact Or.inl ⟨by unfold PV.x; omega, by unfold PV.x; omega⟩
  · exact sj_ret () (ej_var 2) rfl fun _ _ h => h
end
end K92
namespace K92
open PySem PySem.Spec PyProof.Rows L2 J
abbrev FnM (W : Wd) (x qual : Str) (st : Stmt) (kws : List (Str × V)) (f : Addr) (fd : FuncData) : Prop := FunD W.K x qual (defArgs st) (defBody st) (defScope st) [] kws f fd
section
variable {W : Wd} {f : Addr} {fd : FuncData} {kws : List (Str × V)}
theorem ok_distance (fx : Fx W) (Fn : FnD0 W "distance" (top 27) f fd) : FnK W 1 f fd ["a", "b"] (spJ (sNum W.K gDist)) := by
  refine fn_ok (sNum W.K gDist) Fn sc27 (fun _ => rfl) fun r hr z F0 Fr hp => ?_
  obtain ⟨hl, ha, hb⟩ := hp
  refine sj_set 2 ej_int ?_ sc27.nd
  refine sj_for [3, 4] (fun _ => True) (fun i => [some (IsVec W.K z.a), some (IsVec W.K z.b), some (IsInt (accI (gDist z) i)), none, none]) _ (fun _ => [])
    (ij_zipT (n := z.a.length) (fun i => IsInt (z.x i)) (fun i => IsInt (z.y i)) fx.zip (aj_cons (ej_var 0) (aj_cons (ej_var 1) aj_nil)) (by simp [hl]) (mapAt _ _ 0) (mapAt _ _ 0)) trivial
    (fun i hi _ => gj_tup (gjs_cons (gj_name 3 (by decide) sc27.nd) (gjs_cons (gj_name 4 (by decide) sc27.nd) gjs_nil))) (fun F1 x1 i hi _ => ?_) (fun _ => ?_)
  · have h1 := ha _ (getD_mem hi)
    have h2 := hb _ (getD_mem (hl ▸ hi))
    exact sj_set 2 (ej_add (ej_var 2) (ej_mul (ej_sub (ej_var 3) (ej_var 4)) (ej_sub (ej_var 3) (ej_var 4)) (Or.inl ⟨by unfold PV.x PV.y; omega, by unfold PV.x PV.y; omega⟩))) (sj_turn trivial) sc27.nd
  · exact sj_ret () (ej_var 2) rfl fun _ _ h => h
theorem ok_differing (fx : Fx W) (Fn : FnD0 W "differing" (top 28) f fd) : FnK W 1 f fd ["a", "b"] (spJ (sNum W.K gDiff)) := by
  refine fn_ok (sNum W.K gDiff) Fn sc28 (fun _ => rfl) fun r hr z F0 Fr hp => ?_
  obtain ⟨hl, ha, hb⟩ := hp
  refine sj_set 2 ej_int ?_ sc28.nd
  refine sj_for [3, 4] (fun _ => True) (fun i => [some (IsVec W.K z.a), some (IsVec W.K z.b), some (IsInt (accI (gDiff z) i)), none, none]) _ (fun _ => [])
    (ij_zipT (n := z.a.length) (fun i => IsInt (z.x i)) (fun i => IsInt (z.y i)) fx.zip (aj_cons (ej_var 0) (aj_cons (ej_var 1) aj_nil)) (by simp [hl]) (mapAt _ _ 0) (mapAt _ _ 0)) trivial
    (fun i hi _ => gj_tup (gjs_cons (gj_name 3 (by decide) sc28.nd) (gjs_cons (gj_name 4 (by decide) sc28.nd) gjs_nil))) (fun F1 x1 i hi _ => ?_) (fun _ => ?_)
  · refine sj_if (tj_neI (ej_var 3) (ej_var 4)) (fun h => sj_set 2 (ej_add (ej_var 2) ej_int) (sj_end ?_) sc28.nd) (fun h => sj_end ?_)
    · have e : accI (gDiff z) (i + 1) = accI (gDiff z) i + 1 := by show _ + gDiff z i = _; rw [gDiff, if_pos (by simpa using h)]
      refine sj_eq 2 rfl (congrArg IsInt e.symm) ?_
      exact sj_turn trivial
    · have e : accI (gDiff z) (i + 1) = accI (gDiff z) i := by show _ + gDiff z i = _; rw [gDiff, if_neg (by simpa using h), Int.add_zero]
      refine sj_eq 2 rfl (congrArg IsInt e.symm) ?_
      exact sj_turn trivial
  · exact sj_ret () (ej_var 2) rfl fun _ _ h => h

/-! ### names of fields -/
def letS (z : Str) : Bool := (leS "a" z && leS z "z") || ((leS "A" z && leS z "Z") || decide (z = "_"))
def digS (z : Str) : Bool := leS "0" z && leS z "9"
def sLet : FS Str Unit where
  args := fun z => [IsStr z]
  res := fun z _ => IsBool (letS z)
def sDig : FS Str Unit where
  args := fun z => [IsStr z]
  res := fun z _ => IsBool (digS z)
theorem sc34 : FnScope ["sign"] ["sign"] (defScope (top 34)) := ⟨rfl, rfl, rfl, by decide +kernel, rfl, by decide +kernel, by decide +kernel⟩
theorem sc35 : FnScope ["sign"] ["sign"] (defScope (top 35)) := ⟨rfl, rfl, rfl, by decide +kernel, rfl, by decide +kernel, by decide +kernel⟩
theorem sc36 : FnScope ["name", "sign"] ["name"] (defScope (top 36)) := ⟨rfl, rfl, rfl, by decide +kernel, rfl, by decide +kernel, by decide +kernel⟩
theorem ok_letter (Fn : FnD0 W "is_letter" (top 34) f fd) : FnK W 1 f fd ["sign"] (spJ sLet) := by
  refine fn_ok sLet Fn sc34 (fun _ => rfl) fun r hr z F0 Fr hp => ?_
  exact sj_ret () (ej_or (ej_chainS ej_str (ej_var 0) ej_str) fun _ => ej_or (ej_chainS ej_str (ej_var 0) ej_str) fun _ => ej_and1 (ej_cmp op_eq (ej_var 0) ej_str oj_eqS (nomark _))) rfl fun _ _ h => h
theorem ok_digit (Fn : FnD0 W "is_digit" (top 35) f fd) : FnK W 1 f fd ["sign"] (spJ sDig) := by
  refine fn_ok sDig Fn sc35 (fun _ => rfl) fun r hr z F0 Fr hp => ?_
  exact sj_ret () (ej_chainS ej_str (ej_var 0) ej_str) rfl fun _ _ h => h
def wordsL : List Str := ["every", "has", "in", "and", "or", "not", "true", "false"]
/-- of names of one letter -/
def sFname : FS Nat Unit where
  args := fun c => [IsStr ⟨#[c]⟩]
  res := fun c _ => IsBool true
  pre := fun c => c = 107 ∨ c = 116
theorem let1 {c : Nat} (h : c = 107 ∨ c = 116) : letS ⟨#[c]⟩ = true ∧ decide ((⟨#[c]⟩ : Str) = "") = false ∧ (wordsL.any fun y => y == ⟨#[c]⟩) = false := by
  rcases h with rfl | rfl <;> decide +kernel
theorem ok_fname (fx : Fx W) (Fn : FnD0 W "is_field_name" (top 36) f fd) (gL : GF W 1 "is_letter" (spJ sLet)) : FnK W 2 f fd ["name"] (spJ sFname) := by
  refine fn_ok sFname Fn sc36 (fun _ => rfl) fun r hr c F0 Fr hp => ?_
  obtain ⟨h1, h2, h3⟩ := let1 hp
  refine sj_ifF ((tj_b (bj_or (tj_eqS (ej_var 0) ej_str) fun _ => bj_or (tj_not (tj_val (ej_call ⟨#[c]⟩ gL hr (aj_cons (ej_ixS (n := 0) (ch := c) (ej_var 0) ej_int (by show 1 ≤ 100000; decide) rfl) aj_nil)))) fun _ => bj_or1 (tj_cmp op_in_seq (ej_var 0) (ej_kT (ej_gA fx.gWords) fx.tWords) (oj_inT (l := wordsL)) rfl))).eq (by rw [h1, h2, h3]; rfl)) (sj_end ?_)
  refine sj_for [1] (fun _ => True) (fun i => [some (IsStr ⟨#[c]⟩), none]) _ (fun _ => []) (ij_str (ej_var 0)) trivial (fun i hi _ => gj_name 1 (by decide) sc36.nd) (fun F1 x1 i hi _ => ?_) fun _ => ?_
  · have e : i = 0 := by have : i < 1 := hi; omega
    subst e
    refine sj_ifF ((tj_b (bj_and (tj_not (tj_val (ej_call ⟨#[c]⟩ gL hr (aj_cons (ej_var 1) aj_nil)))) (u := false) fun h => ?_)).eq (by rw [h1]; rfl)) (sj_end (sj_turn trivial))
    rw [h1] at h; cases h
  · exact sj_ret () ej_bl rfl fun _ _ h => h
end
end K92
namespace K92
open PySem PySem.Spec PyProof.Rows L2 J
/-! ### Schema -/
structure SchD where
  size : Nat
  width : Str
  measure : Str
def SchD.ok (z : SchD) : Prop := 1 ≤ z.size ∧ z.size ≤ 3 ∧ ((z.width = "small" ∧ (z.measure = "square" ∨ z.measure = "dot")) ∨ (z.width = "bit" ∧ z.measure = "bits"))
abbrev pr (K : PySem.W.Frag) (p : Str × Str) : MP := IsTup K [IsStr p.1, IsStr p.2]
def fldL : List (Str × Str) := [("k", "integer"), ("t", "text")]
abbrev IsFlds (K : PySem.W.Frag) : MP := IsTup K (fldL.map (pr K))
abbrev nsSch : List Str := ["size", "width", "measure", "fields"]
abbrev IsSch (K : PySem.W.Frag) (z : SchD) : MP := IsIns (He.ga K "Schema") nsSch [IsInt z.size, IsStr z.width, IsStr z.measure, IsFlds K]
def iSch (K : PySem.W.Frag) : IS SchD where
  args := fun z => [IsInt z.size, IsStr z.width, IsStr z.measure, IsFlds K]
  ns := nsSch
  flds := fun z => [IsInt z.size, IsStr z.width, IsStr z.measure, IsFlds K]
  pre := SchD.ok
theorem sc39i : FnScope ["self", "size", "width", "measure", "fields", "names", "name", "kind"] ["self", "size", "width", "measure", "fields"] (defScope (inClass (top 39) 0)) := ⟨rfl, rfl, rfl, by decide +kernel, rfl, by decide +kernel, by decide +kernel⟩
def kindsL : List Str := ["integer", "text", "flag"]
def measL : List Str := ["square", "dot", "bits"]
section
variable {W : Wd} {f : Addr} {fd : FuncData} {kws : List (Str × V)}
theorem nsIn_w (fx : Fx W) {z : SchD} (h : z.ok) : ∃ u, PySem.W.nsIn W.K (cl W "RANGES") z.width = some (some u) := by
  obtain ⟨a, ha, _⟩ := fx.rBit
  obtain ⟨b, hb, _⟩ := fx.rSmall
  rcases h.2.2 with ⟨e, _⟩ | ⟨e, _⟩
  · exact ⟨_, e ▸ hb⟩
  · exact ⟨_, e ▸ ha⟩
theorem ok_schema (fx : Fx W) (Fn : FnM W "__init__" "Schema.__init__" (inClass (top 39) 0) kws f fd) (gF : GF W 2 "is_field_name" (spJ sFname)) : FnK W 3 f fd ["self", "size", "width", "measure", "fields"] (spJ ((iSch W.K).fs (He.ga W.K "Schema"))) := by
  refine fn_ok ((iSch W.K).fs (He.ga W.K "Schema")) Fn sc39i (fun _ => rfl) fun r hr ⟨q, z⟩ F0 Fr hp => ?_
  have hp : z.ok := hp
  obtain ⟨es, n, D⟩ := fx.dRanges
  obtain ⟨u, hu⟩ := nsIn_w fx hp
  have m0 : decide ((z.size : Int) < 1) = false := decide_eq_false (by have := hp.1; omega)
  have m1 : (measL.any fun y => y == z.measure) = true := by rcases hp.2.2 with ⟨_, e | e⟩ | ⟨_, e⟩ <;> rw [e] <;> decide +kernel
  have m2 : (decide (z.measure = "bits") && !decide (z.width = "bit")) = false := by rcases hp.2.2 with ⟨e2, e | e⟩ | ⟨e2, e⟩ <;> rw [e, e2] <;> decide +kernel
  refine sj_ifF ((tj_b (bj_or (tj_lt (ej_var 1) ej_int) fun _ => bj_or (tj_cmp (op_notIn_kd D) (ej_var 2) (ej_gA fx.gRanges) (oj_inD hu) rfl) fun _ => bj_or1 (tj_cmp op_notIn_seq (ej_var 3) (ej_kT (ej_gA fx.gMeasures) fx.tMeasures) (oj_notInT (l := measL)) rfl))).eq (by
    rw [m0, m1]; rfl)) (sj_end ?_)
  refine sj_ifF ((tj_b (bj_and (tj_eqS (ej_var 3) ej_str) fun _ => bj_and1 (tj_neS (ej_var 2) ej_str))).eq m2) (sj_end ?_)
  refine sj_setX 5 (ex_lst aj_nil) (fun nm => ?_) sc39i.nd
  refine sj_for [6, 7] (fun _ => True) (fun i => [some (IsAddr q), some (IsInt z.size), some (IsStr z.width), some (IsStr z.measure), some (IsFlds W.K), some (IsAddr nm), none, none]) _ (fun i => [AtL nm (((fldL.take i).map (·.1)).map IsStr), AtI q (He.ga W.K "Schema") [] []])
    (ij_tup (fun i => pr W.K (fldL.getD i ("", ""))) (ej_var 4) (mapAt _ _ _)) trivial (fun i hi _ => gj_tup (gjs_cons (gj_name 6 (by decide) sc39i.nd) (gjs_cons (gj_name 7 (by decide) sc39i.nd) gjs_nil))) (fun F1 x1 i hi _ => ?_) fun _ => ?_
  · have hi' : i = 0 ∨ i = 1 := by have : i < 2 := hi; omega
    rcases hi' with rfl | rfl
    · refine sj_ifF ((tj_b (bj_or (tj_cmp op_notIn_seq (ej_var 7) (ej_kT (ej_gA fx.gKinds) fx.tKinds) (oj_notInT (l := kindsL)) rfl) fun _ => bj_or (tj_not (tj_val (ej_call 107 gF hr (aj_cons (ej_var 6) aj_nil) rfl (Or.inl rfl)))) fun _ => bj_or1 (tj_cmp op_in_seq (ej_var 6) (ej_var 5) (oj_inO 0 (l := [])) rfl))).eq (by decide +kernel)) (sj_end ?_)
      exact sj_expr (ej_append 0 (ej_var 5) (ej_var 6) rfl rfl (by decide)) (sj_turn trivial)
    · refine sj_ifF ((tj_b (bj_or (tj_cmp op_notIn_seq (ej_var 7) (ej_kT (ej_gA fx.gKinds) fx.tKinds) (oj_notInT (l := kindsL)) rfl) fun _ => bj_or (tj_not (tj_val (ej_call 116 gF hr (aj_cons (ej_var 6) aj_nil) rfl (Or.inr rfl)))) fun _ => bj_or1 (tj_cmp op_in_seq (ej_var 6) (ej_var 5) (oj_inO 0 (l := ["k"])) rfl))).eq (by decide +kernel)) (sj_end ?_)
      exact sj_expr (ej_append 0 (ej_var 5) (ej_var 6) rfl rfl (by decide)) (sj_turn trivial)
  refine sj_fldN 1 (ej_var 1) (ej_var 0) fx.cSch ?_
  refine sj_fldN 1 (ej_var 2) (ej_var 0) fx.cSch ?_
  refine sj_fldN 1 (ej_var 3) (ej_var 0) fx.cSch ?_
  refine sj_fldN 1 (ej_tupleL fx.tuple (aj_cons (EX.frzA (g := pr W.K) (d := ("", "")) (l := fldL) (ex_lc [("name", 6), ("kind", 7)] (fun _ => true) _ _ (fun _ => _) sc39i.nd (blkOk_by rfl) (ij_tup (fun i => pr W.K (fldL.getD i ("", ""))) (ej_var 4) (mapAt _ _ _)) rfl
    (fun b i hi => gj_tup (gjs_cons (gj_name 6 (by decide) sc39i.nd) (gjs_cons (gj_name 7 (by decide) sc39i.nd) gjs_nil))) (fun b i hi => tsj_nil) (fun b i hi _ => ej_tup (aj_cons (ej_var 6) (aj_cons (ej_var 7) aj_nil))) (fun _ _ h => Bool.noConfusion h) (by decide))) aj_nil)) (ej_var 0) fx.cSch ?_
  exact sj_drop (sj_fin ())
end
end K92
namespace K92
open PySem PySem.Spec PyProof.Rows L2 J
def loOf (w : Str) : Int := if w = "bit" then 0 else -128
def hiOf (w : Str) : Int := if w = "bit" then 1 else 127
def sLo (K : PySem.W.Frag) : FS SchD Unit where
  args := fun z => [IsSch K z]
  res := fun z _ => IsInt (loOf z.width)
  pre := SchD.ok
def sHi (K : PySem.W.Frag) : FS SchD Unit where
  args := fun z => [IsSch K z]
  res := fun z _ => IsInt (hiOf z.width)
  pre := SchD.ok
theorem sc391 : FnScope ["self"] ["self"] (defScope (inClass (top 39) 1)) := ⟨rfl, rfl, rfl, by decide +kernel, rfl, by decide +kernel, by decide +kernel⟩
theorem sc392 : FnScope ["self"] ["self"] (defScope (inClass (top 39) 2)) := ⟨rfl, rfl, rfl, by decide +kernel, rfl, by decide +kernel, by decide +kernel⟩
theorem sc394 : FnScope ["self", "a", "b"] ["self", "a", "b"] (defScope (inClass (top 39) 4)) := ⟨rfl, rfl, rfl, by decide +kernel, rfl, by decide +kernel, by decide +kernel⟩
theorem sc395 : FnScope ["self", "vector", "number"] ["self", "vector"] (defScope (inClass (top 39) 5)) := ⟨rfl, rfl, rfl, by decide +kernel, rfl, by decide +kernel, by decide +kernel⟩
section
variable {W : Wd} {f : Addr} {fd : FuncData} {kws : List (Str × V)}
theorem rng_at (fx : Fx W) {z : SchD} (h : z.ok) : ∃ a, KDct W.K W.w (cl W "RANGES") z.width (.ref a) ∧ ∀ H, SqT W.K H a [.int (loOf z.width), .int (hiOf z.width)] := by
  obtain ⟨es, n, D⟩ := fx.dRanges
  obtain ⟨a, ha, ta⟩ := fx.rBit
  obtain ⟨b, hb, tb⟩ := fx.rSmall
  have e1 : loOf "small" = -128 := by decide +kernel
  have e2 : hiOf "small" = 127 := by decide +kernel
  have e3 : loOf "bit" = 0 := by decide +kernel
  have e4 : hiOf "bit" = 1 := by decide +kernel
  rcases h.2.2 with ⟨e, _⟩ | ⟨e, _⟩
  · rw [e, e1, e2]; exact ⟨b, ⟨es, n, _, D.at_, D.lit, hb, rfl⟩, tb⟩
  · rw [e, e3, e4]; exact ⟨a, ⟨es, n, _, D.at_, D.lit, ha, rfl⟩, ta⟩
theorem ok_lo (fx : Fx W) (Fn : FnM W "least" "Schema.least" (inClass (top 39) 1) kws f fd) : FnK W 1 f fd ["self"] (spJ (sLo W.K)) := by
  refine fn_ok (sLo W.K) Fn sc391 (fun _ => rfl) fun r hr z F0 Fr hp => ?_
  obtain ⟨a, h1, h2⟩ := rng_at fx (z := z) hp
  exact sj_ret () (ej_ixT (n := 0) (ej_kT (ej_ixD (ej_gA fx.gRanges) (ej_fld 1 (ej_var 0) fx.cSch) h1) h2) ej_int) rfl fun _ _ h => h
theorem ok_hi (fx : Fx W) (Fn : FnM W "greatest" "Schema.greatest" (inClass (top 39) 2) kws f fd) : FnK W 1 f fd ["self"] (spJ (sHi W.K)) := by
  refine fn_ok (sHi W.K) Fn sc392 (fun _ => rfl) fun r hr z F0 Fr hp => ?_
  obtain ⟨a, h1, h2⟩ := rng_at fx (z := z) hp
  exact sj_ret () (ej_ixT (n := 1) (ej_kT (ej_ixD (ej_gA fx.gRanges) (ej_fld 1 (ej_var 0) fx.cSch) h1) h2) ej_int) rfl fun _ _ h => h

/-! far -/
def farOf (m : Str) (z : PV) : Int := if m = "square" then accI (gDist z) z.a.length else if m = "dot" then -accI (gInner z) z.a.length else accI (gDiff z) z.a.length
def sFar (K : PySem.W.Frag) : FS (SchD × PV) Unit where
  args := fun z => [IsSch K z.1, IsVec K z.2.a, IsVec K z.2.b]
  res := fun z _ => IsInt (farOf z.1.measure z.2)
  pre := fun z => z.2.ok
theorem ok_far (fx : Fx W) (Fn : FnM W "far" "Schema.far" (inClass (top 39) 4) kws f fd) (g1 : GF W 1 "inner" (spJ (sNum W.K gInner))) (g2 : GF W 1 "distance" (spJ (sNum W.K gDist))) (g3 : GF W 1 "differing" (spJ (sNum W.K gDiff))) : FnK W 2 f fd ["self", "a", "b"] (spJ (sFar W.K)) := by
  refine fn_ok (sFar W.K) Fn sc394 (fun _ => rfl) fun r hr ⟨z, v⟩ F0 Fr hp => ?_
  refine sj_if (tj_eqS (ej_fld 2 (ej_var 0) fx.cSch) ej_str) (fun h => ?_) fun h => sj_end ?_
  · refine sj_ret () (ej_call v g2 hr (aj_cons (ej_var 1) (aj_cons (ej_var 2) aj_nil)) rfl hp) rfl fun u F h2 => ?_
    show (IsInt (farOf z.measure v)).p u F
    rw [farOf, if_pos (by simpa using h)]; exact h2
  refine sj_if (tj_eqS (ej_fld 2 (ej_var 0) fx.cSch) ej_str) (fun h3 => ?_) fun h3 => sj_end ?_
  · refine sj_ret () (ej_neg (ej_call v g1 hr (aj_cons (ej_var 1) (aj_cons (ej_var 2) aj_nil)) rfl hp)) rfl fun u F h2 => ?_
    show (IsInt (farOf z.measure v)).p u F
    rw [farOf, if_neg (by simpa using h), if_pos (by simpa using h3)]; exact h2
  · refine sj_ret () (ej_call v g3 hr (aj_cons (ej_var 1) (aj_cons (ej_var 2) aj_nil)) rfl hp) rfl fun u F h2 => ?_
    show (IsInt (farOf z.measure v)).p u F
    rw [farOf, if_neg (by simpa using h), if_neg (by simpa using h3)]; exact h2
/-! has_vector -/
def VecOk (z : SchD) (v : List Int) : Prop := v.length = z.size ∧ ∀ x ∈ v, loOf z.width ≤ x ∧ x ≤ hiOf z.width
def sHas (K : PySem.W.Frag) : FS (SchD × List Int) Unit where
  args := fun z => [IsSch K z.1, IsVec K z.2]
  res := fun z _ => IsBool true
  pre := fun z => z.1.ok ∧ VecOk z.1 z.2
theorem ok_has (fx : Fx W) (Fn : FnM W "has_vector" "Schema.has_vector" (inClass (top 39) 5) kws f fd) (g1 : GP W 1 (He.ga W.K "Schema") "least" (spJ (sLo W.K))) (g2 : GP W 1 (He.ga W.K "Schema") "greatest" (spJ (sHi W.K))) : FnK W 3 f fd ["self", "vector"] (spJ (sHas W.K)) := by
  refine fn_ok (sHas W.K) Fn sc395 (fun _ => rfl) fun r hr ⟨z, v⟩ F0 Fr hp => ?_
  obtain ⟨h1, h2, h3⟩ := hp
  refine sj_ifF ((tj_neI (ej_lenT fx.len (aj_cons (ej_var 1) aj_nil)) (ej_fld 0 (ej_var 0) fx.cSch)).eq (by simp [h2])) (sj_end ?_)
  refine sj_for [2] (fun _ => True) (fun i => [some (IsSch W.K z), some (IsVec W.K v), none]) _ (fun _ => []) (ij_tup (fun i => IsInt (v.getD i 0)) (ej_var 1) (mapAt _ _ _)) trivial (fun i hi _ => gj_name 2 (by decide) sc395.nd) (fun F1 x1 i hi _ => ?_) fun _ => sj_ret () ej_bl rfl fun _ _ h => h
  have hi' : i < v.length := by simpa using hi
  have : loOf z.width ≤ v.getD i 0 ∧ v.getD i 0 ≤ hiOf z.width := h3 _ (getD_mem hi')
  refine sj_ifF ((tj_b (bj_or (tj_lt (ej_var 2) (ej_prop z g1 hr (ej_var 0) (recv_ins (by decide)) rfl h1)) fun _ => bj_or1 (tj_gt (ej_var 2) (ej_prop z g2 hr (ej_var 0) (recv_ins (by decide)) rfl h1)))).eq ?_) (sj_end (sj_turn trivial))
  rw [decide_eq_false (by omega), decide_eq_false (by omega)]; rfl
end
end K92
namespace K92
open PySem PySem.Spec PyProof.Rows L2 J
/-! ### reading «every» -/
abbrev ev : Str := "every"
abbrev nsTok : List Str := ["kind", "value", "place"]
abbrev IsTok (K : PySem.W.Frag) (kind value : Str) (place : Int) : MP := IsIns (He.ga K "Token") nsTok [IsStr kind, IsStr value, IsInt place]
def iTok (K : PySem.W.Frag) : IS (Str × Str × Int) where
  args := fun z => [IsStr z.1, IsStr z.2.1, IsInt z.2.2]
  ns := nsTok
  flds := fun z => [IsStr z.1, IsStr z.2.1, IsInt z.2.2]
theorem sc42 : FnScope ["self", "kind", "value", "place"] ["self", "kind", "value", "place"] (defScope (inClass (top 42) 0)) := ⟨rfl, rfl, rfl, by decide +kernel, rfl, by decide +kernel, by decide +kernel⟩
theorem sc43 : FnScope ["text", "start", "end"] ["text", "start"] (defScope (top 43)) := ⟨rfl, rfl, rfl, by decide +kernel, rfl, by decide +kernel, by decide +kernel⟩
theorem sc48 : FnScope ["text", "start", "end"] ["text", "start"] (defScope (top 48)) := ⟨rfl, rfl, rfl, by decide +kernel, rfl, by decide +kernel, by decide +kernel⟩
theorem sc49 : FnScope ["text", "tokens", "at", "token"] ["text"] (defScope (top 49)) := ⟨rfl, rfl, rfl, by decide +kernel, rfl, by decide +kernel, by decide +kernel⟩
theorem sc530 : FnScope ["self", "schema", "text"] ["self", "schema", "text"] (defScope (inClass (top 53) 0)) := ⟨rfl, rfl, rfl, by decide +kernel, rfl, by decide +kernel, by decide +kernel⟩
theorem sc533 : FnScope ["self", "kind", "value"] ["self", "kind", "value"] (defScope (inClass (top 53) 3)) := ⟨rfl, rfl, rfl, by decide +kernel, rfl, by decide +kernel, by decide +kernel⟩
theorem sc534 : FnScope ["self"] ["self"] (defScope (inClass (top 53) 4)) := ⟨rfl, rfl, rfl, by decide +kernel, rfl, by decide +kernel, by decide +kernel⟩
theorem sc535 : FnScope ["self", "kind", "value"] ["self", "kind", "value"] (defScope (inClass (top 53) 5)) := ⟨rfl, rfl, rfl, by decide +kernel, rfl, by decide +kernel, by decide +kernel⟩
theorem sc537 : FnScope ["self", "condition"] ["self"] (defScope (inClass (top 53) 7)) := ⟨rfl, rfl, rfl, by decide +kernel, rfl, by decide +kernel, by decide +kernel⟩
theorem sc538 : FnScope ["self", "condition"] ["self"] (defScope (inClass (top 53) 8)) := ⟨rfl, rfl, rfl, by decide +kernel, rfl, by decide +kernel, by decide +kernel⟩
theorem sc539 : FnScope ["self", "condition"] ["self"] (defScope (inClass (top 53) 9)) := ⟨rfl, rfl, rfl, by decide +kernel, rfl, by decide +kernel, by decide +kernel⟩
theorem sc54 : FnScope ["schema", "text", "reader", "condition"] ["schema", "text"] (defScope (top 54)) := ⟨rfl, rfl, rfl, by decide +kernel, rfl, by decide +kernel, by decide +kernel⟩
def sEow : FS Unit Unit where
  args := fun _ => [IsStr ev, IsInt 0]
  res := fun _ _ => IsInt 5
def sRtk (K : PySem.W.Frag) : FS Unit Unit where
  args := fun _ => [IsStr ev, IsInt 0]
  res := fun _ _ => IsTup K [IsTok K "word" ev 0, IsInt 5]
def sRtks (K : PySem.W.Frag) : FS Unit Unit where
  args := fun _ => [IsStr ev]
  res := fun _ _ => IsLst K [IsTok K "word" ev 0]
abbrev cEv (K : PySem.W.Frag) : Addr := He.ga K "Every"
abbrev IsEv (K : PySem.W.Frag) : MP := IsIns (cEv K) [] []
abbrev nsRdr : List Str := ["schema", "stop", "tokens", "at", "depth"]
abbrev vsRdr (K : PySem.W.Frag) (z : SchD) (at_ : Nat) : List MP := [IsSch K z, IsInt 5, IsLst K [IsTok K "word" ev 0], IsInt at_, IsInt 0]
abbrev AtR (K : PySem.W.Frag) (q : Addr) (z : SchD) (at_ : Nat) : Atm := AtI q (He.ga K "Reader") nsRdr (vsRdr K z at_)
def iRdr (K : PySem.W.Frag) : IS SchD where
  args := fun z => [IsSch K z, IsStr ev]
  ns := nsRdr
  flds := fun z => vsRdr K z 0
def seen (at_ : Nat) (kind value : Str) : Bool := decide (at_ = 0) && (decide (("word" : Str) = kind) && decide (ev = value))
structure RdD where
  q : Addr
  z : SchD
  at_ : Nat
  kind : Str
  value : Str
  b : Bool
def RdD.ok (d : RdD) : Prop := d.at_ ≤ 1 ∧ seen d.at_ d.kind d.value = d.b
theorem rd0 {q : Addr} {z : SchD} {kd vl : Str} {b : Bool} (h : seen 0 kd vl = b) : RdD.ok ⟨q, z, 0, kd, vl, b⟩ := ⟨Nat.zero_le _, h⟩
theorem rd1 {q : Addr} {z : SchD} {kd vl : Str} {b : Bool} (h : seen 1 kd vl = b) : RdD.ok ⟨q, z, 1, kd, vl, b⟩ := ⟨Nat.le_refl _, h⟩
def sSees (K : PySem.W.Frag) : FS RdD Unit where
  args := fun d => [IsAddr d.q, IsStr d.kind, IsStr d.value]
  own := fun d => [AtR K d.q d.z d.at_]
  res := fun d _ => IsBool d.b
  out := fun d _ => [AtR K d.q d.z d.at_]
  pre := RdD.ok
def sSkip (K : PySem.W.Frag) : FS RdD Unit where
  args := fun d => [IsAddr d.q, IsStr d.kind, IsStr d.value]
  own := fun d => [AtR K d.q d.z d.at_]
  res := fun d _ => IsBool d.b
  out := fun d _ => [AtR K d.q d.z (if d.b then d.at_ + 1 else d.at_)]
  pre := RdD.ok
def sWord (K : PySem.W.Frag) : FS (Addr × SchD) Unit where
  args := fun d => [IsAddr d.1]
  own := fun d => [AtR K d.1 d.2 0]
  res := fun d _ => IsStr ev
  out := fun d _ => [AtR K d.1 d.2 0]
def sCond (K : PySem.W.Frag) : FS (Addr × SchD) Unit where
  args := fun d => [IsAddr d.1]
  own := fun d => [AtR K d.1 d.2 0]
  res := fun d _ => IsEv K
  out := fun d _ => [AtR K d.1 d.2 1]
def sFilt (K : PySem.W.Frag) : FS SchD Unit where
  args := fun z => [IsSch K z, IsStr ev]
  res := fun z _ => IsEv K
section
variable {W : Wd} {f : Addr} {fd : FuncData} {kws : List (Str × V)}
theorem ok_token (fx : Fx W) (Fn : FnM W "__init__" "Token.__init__" (inClass (top 42) 0) kws f fd) : FnK W 1 f fd ["self", "kind", "value", "place"] (spJ ((iTok W.K).fs (He.ga W.K "Token"))) := by
  refine fn_ok ((iTok W.K).fs (He.ga W.K "Token")) Fn sc42 (fun _ => rfl) fun r hr ⟨q, kd, v, p⟩ F0 Fr hp => ?_
  refine sj_fldN 0 (ej_var 1) (ej_var 0) fx.cTok ?_
  refine sj_fldN 0 (ej_var 2) (ej_var 0) fx.cTok ?_
  refine sj_fldN 0 (ej_var 3) (ej_var 0) fx.cTok ?_
  exact sj_fin ()
theorem ev_let : ∀ y, y < 5 → letS ⟨#[ev.cps.getD y 0]⟩ = true ∧ ev.cps.toList[y]? = some (ev.cps.getD y 0) := by decide +kernel
theorem ok_eow (fx : Fx W) (Fn : FnD0 W "end_of_word" (top 43) f fd) (gL : GF W 1 "is_letter" (spJ sLet)) : FnK W 2 f fd ["text", "start"] (spJ sEow) := by
  refine fn_ok sEow Fn sc43 (fun _ => rfl) fun r hr _ F0 Fr hp => ?_
  refine sj_set 2 (ej_var 1) ?_ sc43.nd
  refine sj_while (fun y : Nat => 5 - y) (fun y => y ≤ 5) (fun y => [some (IsStr ev), some (IsInt 0), some (IsInt y)]) (fun _ => []) (fun y => decide (y < 5)) (fun _ => []) 0 (by decide) (fun y hy => ?_) (fun F1 x1 y hy h => ?_) (fun y hy h => ?_)
  · refine (tj_b (bj_and (u := decide (y < 5)) (tj_lt (ej_var 2) (ej_lenS fx.len (aj_cons (ej_var 0) aj_nil) (by decide))) fun h => bj_and1 ?_)).eq ?_
    · have h' : y < 5 := by
        have : (y : Int) < (ev.length : Int) := of_decide_eq_true h
        have e : ev.length = 5 := by decide +kernel
        omega
      obtain ⟨h1, h2⟩ := ev_let y h'
      exact (tj_b (bj_or (u := false) (tj_val (ej_call _ gL hr (aj_cons (ej_ixS (n := y) (ej_var 0) (ej_var 2) (by decide) h2) aj_nil))) fun h3 => by rw [h1] at h3; cases h3)).eq (by rw [h1, decide_eq_true h']; rfl)
    · have e : ev.length = 5 := by decide +kernel
      by_cases h : y < 5
      · rw [decide_eq_true h, decide_eq_true (by omega)]; rfl
      · rw [decide_eq_false h, Bool.and_false]
  · have h' : y < 5 := of_decide_eq_true h
    refine sj_set 2 (ej_add (ej_var 2) ej_int) ?_ sc43.nd
    exact sj_turnW (y + 1) (by show 5 - (y + 1) < 5 - y; omega) (show y + 1 ≤ 5 by omega)
  · have h' : ¬ y < 5 := of_decide_eq_false h
    have e : y = 5 := by have : y ≤ 5 := hy; omega
    subst e
    exact sj_ret () (ej_var 2) rfl fun _ _ h => h
theorem ok_rtk (fx : Fx W) (Fn : FnD0 W "read_token" (top 48) f fd) (gL : GF W 1 "is_letter" (spJ sLet)) (gE : GF W 2 "end_of_word" (spJ sEow)) (gT : GC W 1 "Token" (He.ga W.K "Token") (spJ ((iTok W.K).fs (He.ga W.K "Token")))) : FnK W 3 f fd ["text", "start"] (spJ (sRtk W.K)) := by
  refine fn_ok (sRtk W.K) Fn sc48 (fun _ => rfl) fun r hr _ F0 Fr hp => ?_
  refine sj_ifT ((tj_val (ej_call _ gL hr (aj_cons (ej_ixS (n := 0) (ch := 101) (ej_var 0) (ej_var 1) (by decide) rfl) aj_nil))).eq (by decide +kernel)) ?_
  refine sj_set 2 (ej_call () gE hr (aj_cons (ej_var 0) (aj_cons (ej_var 1) aj_nil))) ?_ sc48.nd
  refine sj_ret () (ej_tup (aj_cons (ej_make (("word", ev, 0) : Str × Str × Int) gT hr (aj_cons ej_str (aj_cons ((ej_slS (ej_var 0) (ej_var 1) (ej_var 2) (by decide)).eq (congrArg IsStr (by decide +kernel : cutS ev (some 0) (some 5) = ev))) (aj_cons (ej_var 1) aj_nil)))) (aj_cons (ej_var 2) aj_nil))) rfl fun _ _ h => h
theorem ok_rtks (fx : Fx W) (Fn : FnD0 W "read_tokens" (top 49) f fd) (gR : GF W 3 "read_token" (spJ (sRtk W.K))) : FnK W 4 f fd ["text"] (spJ (sRtks W.K)) := by
  refine fn_ok (sRtks W.K) Fn sc49 (fun _ => rfl) fun r hr _ F0 Fr hp => ?_
  refine sj_setX 1 (ex_lst aj_nil) (fun q => ?_) sc49.nd
  refine sj_set 2 ej_int ?_ sc49.nd
  refine sj_while (fun y : Bool => if y then 1 else 0) (fun _ => True) (fun y => [some (IsStr ev), some (IsAddr q), some (IsInt (if y then 0 else 5)), none]) (fun y => [AtL q (if y then [] else [IsTok W.K "word" ev 0])]) id (fun y => [AtL q (if y then [] else [IsTok W.K "word" ev 0])]) true trivial (fun y hy => ?_) (fun F1 x1 y hy h => ?_) (fun y hy h => ?_)
  · refine (tj_lt (ej_var 2) (ej_lenS fx.len (aj_cons (ej_var 0) aj_nil) (by decide))).eq ?_
    cases y <;> decide +kernel
  · have h' : y = true := h
    subst h'
    refine sj_ifF ((tj_eqS (ej_ixS (n := 0) (ch := 101) (ej_var 0) (ej_var 2) (by decide) rfl) ej_str).eq (by decide +kernel)) ?_
    refine sj_unpack [2, 3] (ej_call () gR hr (aj_cons (ej_var 0) (aj_cons (ej_var 2) aj_nil))) (gj_tup (gjs_cons (gj_name 3 (by decide) sc49.nd) (gjs_cons (gj_name 2 (by decide) sc49.nd) gjs_nil))) ?_
    refine sj_expr (ej_append 0 (ej_var 1) (ej_var 3) rfl rfl (by show 0 < 100000; decide)) (sj_end ?_)
    exact sj_turnW false (by decide) trivial
  · have h' : y = false := h
    subst h'
    refine sj_frzL 1 0 rfl rfl ?_
    exact sj_ret () (ej_var 1) rfl fun _ _ h => h
theorem ok_reader (fx : Fx W) (Fn : FnM W "__init__" "Reader.__init__" (inClass (top 53) 0) kws f fd) (gR : GF W 4 "read_tokens" (spJ (sRtks W.K))) : FnK W 5 f fd ["self", "schema", "text"] (spJ ((iRdr W.K).fs (He.ga W.K "Reader"))) := by
  refine fn_ok ((iRdr W.K).fs (He.ga W.K "Reader")) Fn sc530 (fun _ => rfl) fun r hr ⟨q, z⟩ F0 Fr hp => ?_
  refine sj_fldN 0 (ej_var 1) (ej_var 0) fx.cRdr ?_
  refine sj_fldN 0 ((ej_lenS fx.len (aj_cons (ej_var 2) aj_nil) (by decide)).eq (congrArg IsInt (by decide +kernel : ((ev.length : Nat) : Int) = 5))) (ej_var 0) fx.cRdr ?_
  refine sj_fldN 0 (ej_call () gR hr (aj_cons (ej_var 2) aj_nil)) (ej_var 0) fx.cRdr ?_
  refine sj_fldN 0 ej_int (ej_var 0) fx.cRdr ?_
  refine sj_fldN 0 ej_int (ej_var 0) fx.cRdr ?_
  exact sj_fin ()
theorem ok_sees (fx : Fx W) (Fn : FnM W "sees" "Reader.sees" (inClass (top 53) 3) kws f fd) : FnK W 1 f fd ["self", "kind", "value"] (spJ (sSees W.K)) := by
  refine fn_ok (sSees W.K) Fn sc533 (fun _ => rfl) fun r hr ⟨q, z, at_, kd, vl, b⟩ F0 Fr hp => ?_
  obtain ⟨hp, hb⟩ := hp
  have hp : at_ ≤ 1 := hp
  have hb : seen at_ kd vl = b := hb
  rcases (by omega : at_ = 0 ∨ at_ = 1) with rfl | rfl
  · refine sj_ifF ((tj_eqI (ej_fldO 0 3 (ej_var 0) fx.cRdr) (ej_lenL fx.len (aj_cons (ej_fldO 0 2 (ej_var 0) fx.cRdr) aj_nil))).eq rfl) (sj_end ?_)
    refine sj_ret () (ej_and (ej_cmp op_eq (ej_fld 0 (ej_ixL (n := 0) (ej_fldO 0 2 (ej_var 0) fx.cRdr) (ej_fldO 0 3 (ej_var 0) fx.cRdr)) fx.cTok) (ej_var 1) oj_eqS (nomark _)) fun _ => ej_and1 (ej_cmp op_eq (ej_fld 1 (ej_ixL (n := 0) (ej_fldO 0 2 (ej_var 0) fx.cRdr) (ej_fldO 0 3 (ej_var 0) fx.cRdr)) fx.cTok) (ej_var 2) oj_eqS (nomark _))) rfl fun v F h => ?_
    show (IsBool b).p v F
    rw [← hb]
    exact h
  · refine sj_ifT ((tj_eqI (ej_fldO 0 3 (ej_var 0) fx.cRdr) (ej_lenL fx.len (aj_cons (ej_fldO 0 2 (ej_var 0) fx.cRdr) aj_nil))).eq rfl) ?_
    refine sj_ret () ej_bl rfl fun v F h => ?_
    show (IsBool b).p v F
    rw [← hb]
    exact h
theorem ok_word (fx : Fx W) (Fn : FnM W "word" "Reader.word" (inClass (top 53) 4) kws f fd) : FnK W 1 f fd ["self"] (spJ (sWord W.K)) := by
  refine fn_ok (sWord W.K) Fn sc534 (fun _ => rfl) fun r hr ⟨q, z⟩ F0 Fr hp => ?_
  refine sj_ifF ((tj_b (bj_or (tj_eqI (ej_fldO 0 3 (ej_var 0) fx.cRdr) (ej_lenL fx.len (aj_cons (ej_fldO 0 2 (ej_var 0) fx.cRdr) aj_nil))) fun _ => bj_or1 (tj_neS (ej_fld 0 (ej_ixL (n := 0) (ej_fldO 0 2 (ej_var 0) fx.cRdr) (ej_fldO 0 3 (ej_var 0) fx.cRdr)) fx.cTok) ej_str))).eq (show (decide ((0 : Int) = 1) || !decide (("word" : Str) = "word")) = false by decide +kernel)) (sj_end ?_)
  exact sj_ret () (ej_fld 1 (ej_ixL (n := 0) (ej_fldO 0 2 (ej_var 0) fx.cRdr) (ej_fldO 0 3 (ej_var 0) fx.cRdr)) fx.cTok) rfl fun _ _ h => h
theorem ok_skip (fx : Fx W) (Fn : FnM W "skip" "Reader.skip" (inClass (top 53) 5) kws f fd) (gS : GM W 1 (He.ga W.K "Reader") "sees" (spJ (sSees W.K))) : FnK W 2 f fd ["self", "kind", "value"] (spJ (sSkip W.K)) := by
  refine fn_ok (sSkip W.K) Fn sc535 (fun _ => rfl) fun r hr ⟨q, z, at_, kd, vl, b⟩ F0 Fr hp => ?_
  cases b with
  | true =>
    refine sj_ifT (tj_val (ej_meth ⟨q, z, at_, kd, vl, true⟩ gS hr (ej_var 0) (recv_own 0) (aj_cons (ej_var 1) (aj_cons (ej_var 2) aj_nil)) rfl hp)) ?_
    refine sj_fld 0 3 (ej_add (ej_fldO 0 3 (ej_var 0) fx.cRdr) ej_int) (ej_var 0) fx.cRdr ?_
    exact sj_ret () ej_bl rfl fun v F h2 => h2
  | false =>
    refine sj_ifF (tj_val (ej_meth ⟨q, z, at_, kd, vl, false⟩ gS hr (ej_var 0) (recv_own 0) (aj_cons (ej_var 1) (aj_cons (ej_var 2) aj_nil)) rfl hp)) (sj_end ?_)
    exact sj_ret () ej_bl rfl fun v F h2 => h2
theorem ok_condition (fx : Fx W) (Fn : FnM W "condition" "Reader.condition" (inClass (top 53) 9) kws f fd) (gS : GM W 1 (He.ga W.K "Reader") "sees" (spJ (sSees W.K))) (gW : GM W 1 (He.ga W.K "Reader") "word" (spJ (sWord W.K))) (gK : GM W 2 (He.ga W.K "Reader") "skip" (spJ (sSkip W.K)))
    (gE : W.mg "Every" = some (.ref (cEv W.K))) (mE : Mk0 W.K (cEv W.K)) : FnK W 3 f fd ["self"] (spJ (sCond W.K)) := by
  refine fn_ok (sCond W.K) Fn sc539 (fun _ => rfl) fun r hr ⟨q, z⟩ F0 Fr hp => ?_
  refine sj_ifF (tj_val (ej_meth ⟨q, z, 0, "word", "not", false⟩ gS hr (ej_var 0) (recv_own 0) (aj_cons ej_str (aj_cons ej_str aj_nil)) rfl (rd0 (by decide +kernel)))) (sj_end ?_)
  refine sj_ifF (tj_val (ej_meth ⟨q, z, 0, "sign", "(", false⟩ gS hr (ej_var 0) (recv_own 0) (aj_cons ej_str (aj_cons ej_str aj_nil)) rfl (rd0 (by decide +kernel)))) (sj_end ?_)
  refine sj_ifF (tj_isN0 (ej_meth0 ⟨q, z⟩ gW hr (ej_var 0) (recv_own 0)) (nn_v (v := .str ev))) (sj_end ?_)
  refine sj_ifT (tj_val (ej_meth ⟨q, z, 0, "word", "every", true⟩ gK hr (ej_var 0) (recv_own 0) (aj_cons ej_str (aj_cons ej_str aj_nil)) rfl (rd0 (by decide +kernel)))) ?_
  exact sj_ret () (ej_make00 mE gE) rfl fun _ _ h => h
theorem ok_conditions (fx : Fx W) (Fn : FnM W "conditions" "Reader.conditions" (inClass (top 53) 8) kws f fd) (gC : GM W 3 (He.ga W.K "Reader") "condition" (spJ (sCond W.K))) (gK : GM W 2 (He.ga W.K "Reader") "skip" (spJ (sSkip W.K))) : FnK W 4 f fd ["self"] (spJ (sCond W.K)) := by
  refine fn_ok (sCond W.K) Fn sc538 (fun _ => rfl) fun r hr ⟨q, z⟩ F0 Fr hp => ?_
  refine sj_set 1 (ej_meth0 ⟨q, z⟩ gC hr (ej_var 0) (recv_own 0)) ?_ sc538.nd
  refine sj_while (fun _ : Unit => 0) (fun _ => True) (fun _ => [some (IsAddr q), some (IsEv W.K)]) (fun _ => [AtR W.K q z 1]) (fun _ => false) (fun _ => [AtR W.K q z 1]) () trivial (fun y hy => ?_) (fun F1 x1 y hy h => Bool.noConfusion h) (fun y hy h => ?_)
  · exact (tj_val (ej_meth ⟨q, z, 1, "word", "and", false⟩ gK hr (ej_var 0) (recv_own 0) (aj_cons ej_str (aj_cons ej_str aj_nil)) rfl (rd1 (by decide +kernel))))
  · exact sj_ret () (ej_var 1) rfl fun _ _ h => h
theorem ok_whole (fx : Fx W) (Fn : FnM W "whole" "Reader.whole" (inClass (top 53) 7) kws f fd) (gC : GM W 4 (He.ga W.K "Reader") "conditions" (spJ (sCond W.K))) (gK : GM W 2 (He.ga W.K "Reader") "skip" (spJ (sSkip W.K))) : FnK W 5 f fd ["self"] (spJ (sCond W.K)) := by
  refine fn_ok (sCond W.K) Fn sc537 (fun _ => rfl) fun r hr ⟨q, z⟩ F0 Fr hp => ?_
  refine sj_set 1 (ej_meth0 ⟨q, z⟩ gC hr (ej_var 0) (recv_own 0)) ?_ sc537.nd
  refine sj_while (fun _ : Unit => 0) (fun _ => True) (fun _ => [some (IsAddr q), some (IsEv W.K)]) (fun _ => [AtR W.K q z 1]) (fun _ => false) (fun _ => [AtR W.K q z 1]) () trivial (fun y hy => ?_) (fun F1 x1 y hy h => Bool.noConfusion h) (fun y hy h => ?_)
  · exact (tj_val (ej_meth ⟨q, z, 1, "word", "or", false⟩ gK hr (ej_var 0) (recv_own 0) (aj_cons ej_str (aj_cons ej_str aj_nil)) rfl (rd1 (by decide +kernel))))
  · exact sj_ret () (ej_var 1) rfl fun _ _ h => h
theorem ok_filter (fx : Fx W) (Fn : FnD0 W "read_filter" (top 54) f fd) (gR : GC W 5 "Reader" (He.ga W.K "Reader") (spJ ((iRdr W.K).fs (He.ga W.K "Reader")))) (gW : GM W 5 (He.ga W.K "Reader") "whole" (spJ (sCond W.K))) : FnK W 7 f fd ["schema", "text"] (spJ (sFilt W.K)) := by
  refine fn_ok (sFilt W.K) Fn sc54 (fun _ => rfl) fun r hr z F0 Fr hp => ?_
  refine sj_setX 2 (ex_make z gR hr (aj_cons (ej_var 0) (aj_cons (ej_var 1) aj_nil))) (fun q => ?_) sc54.nd
  refine sj_own (L1 := [AtR W.K q z 0]) rfl ?_
  refine sj_set 3 (ej_meth0 ⟨q, z⟩ gW hr (ej_var 2) (recv_own 0)) ?_ sc54.nd
  refine sj_ifF ((tj_lt (ej_fldO 0 3 (ej_var 2) fx.cRdr) (ej_lenL fx.len (aj_cons (ej_fldO 0 2 (ej_var 2) fx.cRdr) aj_nil))).eq rfl) (sj_end ?_)
  exact sj_drop (sj_ret () (ej_var 3) rfl fun _ _ h => h)
end
end K92
namespace K92
open PySem PySem.Spec PyProof.Rows L2 J
/-! ### records, queries, questions -/
abbrev Wl : Type := List (Str × Int)
abbrev d0 : Str × Int := ("", 0)
abbrev wp (K : PySem.W.Frag) (p : Str × Int) : MP := IsTup K [IsStr p.1, IsInt p.2]
abbrev IsW (K : PySem.W.Frag) (l : Wl) : MP := IsTup K (l.map (wp K))
abbrev IsWL (K : PySem.W.Frag) (l : Wl) : MP := IsLst K (l.map (wp K))
structure VW where
  vec : List Int
  words : Wl
def VW.few (z : VW) : Prop := z.vec.length ≤ 1000 ∧ z.words.length ≤ 1000
abbrev nsRec : List Str := ["name", "vector", "fields", "words"]
abbrev IsRec (K : PySem.W.Frag) (z : VW) : MP := IsIns (He.ga K "Record") nsRec [IsStr "r", IsVec K z.vec, IsW K [], IsW K z.words]
def iRec (K : PySem.W.Frag) : IS VW where
  args := fun z => [IsStr "r", IsLst K (z.vec.map IsInt), IsW K [], IsWL K z.words]
  ns := nsRec
  flds := fun z => [IsStr "r", IsVec K z.vec, IsW K [], IsW K z.words]
  pre := VW.few
abbrev nsQry : List Str := ["vector", "near", "words", "text", "most"]
abbrev IsQry (K : PySem.W.Frag) (z : VW) : MP := IsIns (He.ga K "Query") nsQry [IsVec K z.vec, IsInt 0, IsW K z.words, IsStr ev, IsInt 1]
def iQry (K : PySem.W.Frag) : IS VW where
  args := fun z => [IsLst K (z.vec.map IsInt), IsInt 0, IsWL K z.words, IsStr ev, IsInt 1]
  ns := nsQry
  flds := fun z => [IsVec K z.vec, IsInt 0, IsW K z.words, IsStr ev, IsInt 1]
  pre := VW.few
theorem sc110 : FnScope ["self", "name", "vector", "fields", "words", "field", "worth", "word", "count"] ["self", "name", "vector", "fields", "words"] (defScope (inClass (top 11) 0)) := ⟨rfl, rfl, rfl, by decide +kernel, rfl, by decide +kernel, by decide +kernel⟩
theorem sc112 : FnScope ["self", "word", "other", "count"] ["self", "word"] (defScope (inClass (top 11) 2)) := ⟨rfl, rfl, rfl, by decide +kernel, rfl, by decide +kernel, by decide +kernel⟩
theorem sc57 : FnScope ["schema", "query", "words", "word", "weight"] ["schema", "query"] (defScope (top 57)) := ⟨rfl, rfl, rfl, by decide +kernel, rfl, by decide +kernel, by decide +kernel⟩
theorem sc580 : FnScope ["self", "schema", "query"] ["self", "schema", "query"] (defScope (inClass (top 58) 0)) := ⟨rfl, rfl, rfl, by decide +kernel, rfl, by decide +kernel, by decide +kernel⟩
theorem sc582 : FnScope ["self", "record", "total", "word", "weight"] ["self", "record"] (defScope (inClass (top 58) 2)) := ⟨rfl, rfl, rfl, by decide +kernel, rfl, by decide +kernel, by decide +kernel⟩
theorem sc690 : FnScope ["self", "vector", "near", "words", "text", "most", "word", "weight"] ["self", "vector", "near", "words", "text", "most"] (defScope (inClass (top 69) 0)) := ⟨rfl, rfl, rfl, by decide +kernel, rfl, by decide +kernel, by decide +kernel⟩
def cntOf (w : Str) : Wl → Int
  | [] => 0
  | p :: r => if p.1 = w then p.2 else cntOf w r
theorem cnt_at {w : Str} : ∀ {l : Wl} {i : Nat}, (∀ j, j < i → (l.getD j d0).1 ≠ w) → i < l.length → (l.getD i d0).1 = w → cntOf w l = (l.getD i d0).2
  | [], _, _, h, _ => by simp at h
  | p :: r, 0, _, _, e => by
    have e' : p.1 = w := e
    show (if p.1 = w then p.2 else _) = p.2
    rw [if_pos e']
  | p :: r, i + 1, h, hl, e => by
    have h0 : p.1 ≠ w := h 0 (Nat.succ_pos _)
    show (if p.1 = w then p.2 else cntOf w r) = _
    rw [if_neg h0]
    exact cnt_at (l := r) (i := i) (fun j hj => h (j + 1) (by omega)) (by simpa using hl) e
theorem cnt_none {w : Str} : ∀ {l : Wl}, (∀ j, j < l.length → (l.getD j d0).1 ≠ w) → cntOf w l = 0
  | [], _ => rfl
  | p :: r, h => by
    have h0 : p.1 ≠ w := h 0 (Nat.succ_pos _)
    show (if p.1 = w then p.2 else cntOf w r) = _
    rw [if_neg h0]
    exact cnt_none (l := r) fun j hj => h (j + 1) (by simpa using hj)
def sCnt (K : PySem.W.Frag) : FS (VW × Str) Unit where
  args := fun z => [IsRec K z.1, IsStr z.2]
  res := fun z _ => IsInt (cntOf z.2 z.1.words)
def WordsOk (l : Wl) : Prop := (∀ p ∈ l, 0 ≤ p.2 ∧ p.2 ≤ 1000) ∧ (l.map (·.1)).Nodup ∧ l.length ≤ 1000
def sChk (K : PySem.W.Frag) : FS (SchD × VW) Unit where
  args := fun z => [IsSch K z.1, IsQry K z.2]
  res := fun z _ => IsNone
  pre := fun z => z.1.ok ∧ VecOk z.1 z.2.vec ∧ WordsOk z.2.words
abbrev nsQn : List Str := ["schema", "query", "condition"]
abbrev IsQn (K : PySem.W.Frag) (z : SchD) (v : VW) : MP := IsIns (He.ga K "Question") nsQn [IsSch K z, IsQry K v, IsEv K]
def iQn (K : PySem.W.Frag) : IS (SchD × VW) where
  args := fun z => [IsSch K z.1, IsQry K z.2]
  ns := nsQn
  flds := fun z => [IsSch K z.1, IsQry K z.2, IsEv K]
  pre := fun z => z.1.ok ∧ VecOk z.1 z.2.vec ∧ WordsOk z.2.words
/-- what the words asked for take away -/
def costAcc (l : Wl) (g : Str → Int) : Nat → Int
  | 0 => 0
  | i + 1 => costAcc l g i - (l.getD i d0).2 * g (l.getD i d0).1
structure QR where
  z : SchD
  v : VW
  r : VW
def QR.ok (x : QR) : Prop := PV.ok ⟨x.v.vec, x.r.vec⟩ ∧ WordsOk x.v.words
def sCost (K : PySem.W.Frag) : FS QR Unit where
  args := fun x => [IsQn K x.z x.v, IsRec K x.r]
  res := fun x _ => IsInt (costAcc x.v.words (fun w => min 15 (cntOf w x.r.words)) x.v.words.length)
  pre := QR.ok
theorem wl_mem {l : Wl} {i : Nat} (h : i < l.length) : l.getD i d0 ∈ l := by
  rw [List.getD_eq_getElem?_getD, List.getElem?_eq_getElem h]; exact List.getElem_mem h
theorem take_next {α β : Type} (f : α → β) (d : α) {l : List α} {i : Nat} (h : i < l.length) : (l.take (i + 1)).map f = (l.take i).map f ++ [f (l.getD i d)] := by
  rw [List.take_succ, List.getElem?_eq_getElem h, List.getD_eq_getElem?_getD, List.getElem?_eq_getElem h, List.map_append]; rfl
theorem nodup_take {l : List Str} {i : Nat} (h : l.Nodup) (hi : i < l.length) : ((l.take i).any fun y => y == l.getD i "") = false := by
  rw [List.any_eq_false]
  intro y hy e
  have e : y = l.getD i "" := eq_of_beq e
  rw [List.getD_eq_getElem?_getD, List.getElem?_eq_getElem hi] at e
  have e : y = l[i] := e
  obtain ⟨j, hj, e2⟩ := List.getElem_of_mem hy
  rw [List.getElem_take] at e2
  have hj' : j < i := by rw [List.length_take] at hj; omega
  have e3 : l[j]'(by omega) = l[i] := by rw [e2, e]
  have := (List.getElem_inj h).mp e3
  omega
section
variable {W : Wd} {f : Addr} {fd : FuncData} {kws : List (Str × V)}
theorem ok_record (fx : Fx W) (Fn : FnM W "__init__" "Record.__init__" (inClass (top 11) 0) kws f fd) : FnK W 1 f fd ["self", "name", "vector", "fields", "words"] (spJ ((iRec W.K).fs (He.ga W.K "Record"))) := by
  refine fn_ok ((iRec W.K).fs (He.ga W.K "Record")) Fn sc110 (fun _ => rfl) fun r hr ⟨q, z⟩ F0 Fr hp => ?_
  have hp : z.few := hp
  refine sj_fldN 0 (ej_var 1) (ej_var 0) fx.cRec ?_
  refine sj_fldN 0 (ej_tupleL fx.tuple (aj_cons (ej_var 2) aj_nil)) (ej_var 0) fx.cRec ?_
  refine sj_fldN 0 (ej_tupleL fx.tuple (aj_cons (EX.frzA (g := wp W.K) (d := d0) (l := []) (ex_lc [("field", 5), ("worth", 6)] (fun _ => true) _ _ (fun _ => _) sc110.nd (blkOk_by rfl) (ij_tupM (wp W.K) d0 [] (ej_var 3)) rfl
    (fun b i hi => gj_tup (gjs_cons (gj_name 5 (by decide) sc110.nd) (gjs_cons (gj_name 6 (by decide) sc110.nd) gjs_nil))) (fun b i hi => tsj_nil) (fun b i hi _ => ej_tup (aj_cons (ej_var 5) (aj_cons (ej_var 6) aj_nil))) (fun _ _ h => Bool.noConfusion h) (by simp))) aj_nil)) (ej_var 0) fx.cRec ?_
  refine sj_fldN 0 (ej_tupleL fx.tuple (aj_cons (EX.frzA (g := wp W.K) (d := d0) (l := z.words) (ex_lc [("word", 7), ("count", 8)] (fun _ => true) _ _ (fun _ => _) sc110.nd (blkOk_by rfl) (ij_lstM (wp W.K) d0 z.words (ej_var 4)) rfl
    (fun b i hi => gj_tup (gjs_cons (gj_name 7 (by decide) sc110.nd) (gjs_cons (gj_name 8 (by decide) sc110.nd) gjs_nil))) (fun b i hi => tsj_nil) (fun b i hi _ => ej_tup (aj_cons (ej_var 7) (aj_cons (ej_var 8) aj_nil))) (fun _ _ h => Bool.noConfusion h) (by have := hp.2; omega))) aj_nil)) (ej_var 0) fx.cRec ?_
  exact sj_fin ()
theorem ok_query (fx : Fx W) (Fn : FnM W "__init__" "Query.__init__" (inClass (top 69) 0) kws f fd) : FnK W 1 f fd ["self", "vector", "near", "words", "text", "most"] (spJ ((iQry W.K).fs (He.ga W.K "Query"))) := by
  refine fn_ok ((iQry W.K).fs (He.ga W.K "Query")) Fn sc690 (fun _ => rfl) fun r hr ⟨q, z⟩ F0 Fr hp => ?_
  have hp : z.few := hp
  refine sj_fldN 0 (ej_tupleL fx.tuple (aj_cons (ej_var 1) aj_nil)) (ej_var 0) fx.cQry ?_
  refine sj_fldN 0 (ej_var 2) (ej_var 0) fx.cQry ?_
  refine sj_fldN 0 (ej_tupleL fx.tuple (aj_cons (EX.frzA (g := wp W.K) (d := d0) (l := z.words) (ex_lc [("word", 6), ("weight", 7)] (fun _ => true) _ _ (fun _ => _) sc690.nd (blkOk_by rfl) (ij_lstM (wp W.K) d0 z.words (ej_var 3)) rfl
    (fun b i hi => gj_tup (gjs_cons (gj_name 6 (by decide) sc690.nd) (gjs_cons (gj_name 7 (by decide) sc690.nd) gjs_nil))) (fun b i hi => tsj_nil) (fun b i hi _ => ej_tup (aj_cons (ej_var 6) (aj_cons (ej_var 7) aj_nil))) (fun _ _ h => Bool.noConfusion h) (by have := hp.2; omega))) aj_nil)) (ej_var 0) fx.cQry ?_
  refine sj_fldN 0 (ej_var 4) (ej_var 0) fx.cQry ?_
  refine sj_fldN 0 (ej_var 5) (ej_var 0) fx.cQry ?_
  exact sj_fin ()
theorem ok_cnt (fx : Fx W) (Fn : FnM W "count_of" "Record.count_of" (inClass (top 11) 2) kws f fd) : FnK W 1 f fd ["self", "word"] (spJ (sCnt W.K)) := by
  refine fn_ok (sCnt W.K) Fn sc112 (fun _ => rfl) fun r hr ⟨z, w⟩ F0 Fr hp => ?_
  refine sj_for [2, 3] (fun i => ∀ j, j < i → (z.words.getD j d0).1 ≠ w) (fun i => [some (IsRec W.K z), some (IsStr w), none, none]) _ (fun _ => []) (ij_tupM (wp W.K) d0 z.words (ej_fld 3 (ej_var 0) fx.cRec)) (fun j hj => absurd hj (Nat.not_lt_zero _))
    (fun i hi _ => gj_tup (gjs_cons (gj_name 2 (by decide) sc112.nd) (gjs_cons (gj_name 3 (by decide) sc112.nd) gjs_nil))) (fun F1 x1 i hi hP => ?_) (fun hP => ?_)
  · refine sj_if (tj_eqS (ej_var 2) (ej_var 1)) (fun h => ?_) (fun h => sj_end (sj_turn ?_))
    · refine sj_ret () (ej_var 3) rfl fun v F h2 => ?_
      show (IsInt (cntOf w z.words)).p v F
      rw [cnt_at hP hi (of_decide_eq_true h)]; exact h2
    · intro j hj
      rcases Nat.lt_succ_iff_lt_or_eq.mp hj with h3 | rfl
      · exact hP j h3
      · exact of_decide_eq_false h
  · refine sj_ret () ej_int rfl fun v F h2 => ?_
    show (IsInt (cntOf w z.words)).p v F
    rw [cnt_none hP]; exact h2
theorem ok_chk (fx : Fx W) (Fn : FnD0 W "check_query" (top 57) f fd) (gH : GM W 3 (He.ga W.K "Schema") "has_vector" (spJ (sHas W.K))) : FnK W 4 f fd ["schema", "query"] (spJ (sChk W.K)) := by
  refine fn_ok (sChk W.K) Fn sc57 (fun _ => rfl) fun r hr ⟨z, v⟩ F0 Fr hp => ?_
  obtain ⟨h1, h2, h3, h4, h5⟩ := hp
  have h3 : ∀ p ∈ v.words, 0 ≤ p.2 ∧ p.2 ≤ 1000 := h3
  have h4 : (v.words.map (·.1)).Nodup := h4
  have h5 : v.words.length ≤ 1000 := h5
  have hh : (sHas W.K).pre (z, v.vec) := ⟨h1, h2⟩
  refine sj_ifF ((tj_b (bj_or (tj_not (tj_val (ej_meth (z, v.vec) gH hr (ej_var 0) (recv_ins (by decide)) (aj_cons (ej_fld 0 (ej_var 1) fx.cQry) aj_nil) rfl hh))) fun _ => bj_or (tj_lt (ej_fld 1 (ej_var 1) fx.cQry) ej_int) fun _ => bj_or1 (tj_lt (ej_fld 4 (ej_var 1) fx.cQry) ej_int))).eq rfl) (sj_end ?_)
  refine sj_setX 2 (ex_lst aj_nil) (fun nm => ?_) sc57.nd
  refine sj_for [3, 4] (fun _ => True) (fun i => [some (IsSch W.K z), some (IsQry W.K v), some (IsAddr nm), none, none]) _ (fun i => [AtL nm (((v.words.map (·.1)).take i).map IsStr)]) (ij_tupM (wp W.K) d0 v.words (ej_fld 2 (ej_var 1) fx.cQry)) trivial
    (fun i hi _ => gj_tup (gjs_cons (gj_name 3 (by decide) sc57.nd) (gjs_cons (gj_name 4 (by decide) sc57.nd) gjs_nil))) (fun F1 x1 i hi hP => ?_) (fun hP => ?_)
  · have e1 : (v.words.map (fun p => p.1)).getD i ("" : Str) = (v.words.getD i d0).1 := by
      rw [List.getD_eq_getElem?_getD, List.getElem?_map, List.getD_eq_getElem?_getD, List.getElem?_eq_getElem hi]; rfl
    have hi' : i < (v.words.map (·.1)).length := by rw [List.length_map]; exact hi
    have e2 := nodup_take h4 hi'
    rw [e1] at e2
    refine sj_ifF ((tj_b (bj_or (tj_lt (ej_var 4) ej_int) fun _ => bj_or1 (tj_cmp op_in_seq (ej_var 3) (ej_var 2) (oj_inO 0 (l := (v.words.map (·.1)).take i)) rfl))).eq (by
      have := (h3 _ (wl_mem hi)).1
      rw [e2, decide_eq_false (by omega)]; rfl)) (sj_end ?_)
    refine sj_expr (ej_append 0 (ej_var 2) (ej_var 3) rfl rfl (by rw [List.length_map, List.length_take]; omega)) (sj_turn trivial (hl := ?_))
    rw [take_next IsStr "" hi', e1]; rfl
  · exact sj_drop (sj_fin ())
theorem ok_question (fx : Fx W) (Fn : FnM W "__init__" "Question.__init__" (inClass (top 58) 0) kws f fd) (gC : GF W 4 "check_query" (spJ (sChk W.K))) (gR : GF W 7 "read_filter" (spJ (sFilt W.K))) : FnK W 8 f fd ["self", "schema", "query"] (spJ ((iQn W.K).fs (He.ga W.K "Question"))) := by
  refine fn_ok ((iQn W.K).fs (He.ga W.K "Question")) Fn sc580 (fun _ => rfl) fun r hr ⟨q, z, v⟩ F0 Fr hp => ?_
  refine sj_expr (ej_call (z, v) gC hr (aj_cons (ej_var 1) (aj_cons (ej_var 2) aj_nil)) rfl hp) ?_
  refine sj_fldN 0 (ej_var 1) (ej_var 0) fx.cQn ?_
  refine sj_fldN 0 (ej_var 2) (ej_var 0) fx.cQn ?_
  refine sj_fldN 0 (ej_call z gR hr (aj_cons (ej_var 1) (aj_cons (ej_fld 3 (ej_var 2) fx.cQry) aj_nil))) (ej_var 0) fx.cQn ?_
  exact sj_fin ()
theorem ok_cost (fx : Fx W) (Fn : FnM W "cost" "Question.cost" (inClass (top 58) 2) kws f fd) (gF : GM W 2 (He.ga W.K "Schema") "far" (spJ (sFar W.K))) (gC : GM W 1 (He.ga W.K "Record") "count_of" (spJ (sCnt W.K))) : FnK W 3 f fd ["self", "record"] (spJ (sCost W.K)) := by
  refine fn_ok (sCost W.K) Fn sc582 (fun _ => rfl) fun r hr x F0 Fr hp => ?_
  obtain ⟨h1, h3, h4, h5⟩ := hp
  refine sj_set 2 (ej_mul (ej_fld 1 (ej_fld 1 (ej_var 0) fx.cQn) fx.cQry) (ej_meth (x.z, (⟨x.v.vec, x.r.vec⟩ : PV)) gF hr (ej_fld 0 (ej_var 0) fx.cQn) (recv_ins (by decide)) (aj_cons (ej_fld 0 (ej_fld 1 (ej_var 0) fx.cQn) fx.cQry) (aj_cons (ej_fld 1 (ej_var 1) fx.cRec) aj_nil)) rfl h1) (Or.inl ⟨by decide, by decide⟩)) ?_ sc582.nd
  refine sj_eq 2 rfl (congrArg IsInt (Int.zero_mul _)) ?_
  refine sj_for [3, 4] (fun _ => True) (fun i => [some (IsQn W.K x.z x.v), some (IsRec W.K x.r), some (IsInt (costAcc x.v.words (fun w => min 15 (cntOf w x.r.words)) i)), none, none]) _ (fun i => []) (ij_tupM (wp W.K) d0 x.v.words (ej_fld 2 (ej_fld 1 (ej_var 0) fx.cQn) fx.cQry)) trivial
    (fun i hi _ => gj_tup (gjs_cons (gj_name 3 (by decide) sc582.nd) (gjs_cons (gj_name 4 (by decide) sc582.nd) gjs_nil))) (fun F1 x1 i hi hP => ?_) (fun hP => ?_)
  · have := h3 _ (wl_mem hi)
    exact sj_set 2 (ej_sub (ej_var 2) (ej_mul (ej_var 4) (ej_min2 fx.min (aj_cons (ej_gI fx.mostCount) (aj_cons (ej_meth (x.r, (x.v.words.getD i d0).1) gC hr (ej_var 1) (recv_ins (by decide)) (aj_cons (ej_var 3) aj_nil)) aj_nil))) (Or.inl ⟨by omega, by omega⟩))) (sj_turn trivial) sc582.nd
  · exact sj_ret () (ej_var 2) rfl fun _ _ h => h
end
end K92
namespace K92
open PySem PySem.Spec PyProof.Rows L2 J
/-! ### counts, bounds -/
abbrev IsCnt (K : PySem.W.Frag) (l : Wl) : MP := IsIns (He.ga K "Counts") ["words"] [IsW K l]
def iCnt (K : PySem.W.Frag) : IS Wl where
  args := fun l => [IsWL K l]
  ns := ["words"]
  flds := fun l => [IsW K l]
  pre := fun l => l.length ≤ 1000
def cbAcc (w : Str) (l : Wl) : Nat → Int
  | 0 => 0
  | i + 1 => if (l.getD i d0).1 = w then max (cbAcc w l i) (l.getD i d0).2 else cbAcc w l i
def cb (w : Str) (l : Wl) : Int := cbAcc w l l.length
def nw (w : Str) (l : Wl) : Bool := l.any fun p => decide (p.1 = w)
def sCb (K : PySem.W.Frag) : FS (Wl × Str) Unit where
  args := fun z => [IsCnt K z.1, IsStr z.2]
  res := fun z _ => IsInt (cb z.2 z.1)
def sNw (K : PySem.W.Frag) : FS (Wl × Str) Unit where
  args := fun z => [IsCnt K z.1, IsStr z.2]
  res := fun z _ => IsBool (nw z.2 z.1)
def sHolds (K : PySem.W.Frag) : FS (Wl × VW) Unit where
  args := fun z => [IsCnt K z.1, IsRec K z.2]
  res := fun z _ => IsBool true
  pre := fun z => ∀ p ∈ z.2.words, nw p.1 z.1 = true ∧ p.2 ≤ cb p.1 z.1
def sNone (K : PySem.W.Frag) : FS Wl Unit where
  args := fun z => [IsCnt K z]
  res := fun z _ => IsNone
abbrev nsBnd : List Str := ["cost", "name", "can"]
abbrev IsBnd (K : PySem.W.Frag) (c : Int) : MP := IsIns (He.ga K "Bound") nsBnd [IsInt c, IsStr "", IsBool true]
def iBnd (K : PySem.W.Frag) : IS Int where
  args := fun c => [IsInt c, IsStr "", IsBool true]
  ns := nsBnd
  flds := fun c => [IsInt c, IsStr "", IsBool true]
abbrev IsFacts (K : PySem.W.Frag) (fl : List Wl) : MP := IsLst K (fl.map (IsCnt K))
def mcAcc (w : Str) (fl : List Wl) : Nat → Int
  | 0 => 15
  | i + 1 => min (mcAcc w fl i) (cb w (fl.getD i []))
def mc (fl : List Wl) (w : Str) : Int := mcAcc w fl fl.length
def sMc (K : PySem.W.Frag) : FS (Str × List Wl) Unit where
  args := fun z => [IsStr z.1, IsFacts K z.2]
  res := fun z _ => IsInt (mc z.2 z.1)
structure QF where
  z : SchD
  v : VW
  fl : List Wl
def sLc (K : PySem.W.Frag) : FS QF Unit where
  args := fun x => [IsQn K x.z x.v, IsFacts K x.fl]
  res := fun x _ => IsInt (costAcc x.v.words (mc x.fl) x.v.words.length)
  pre := fun x => WordsOk x.v.words
def sLn (K : PySem.W.Frag) : FS (List Wl) Unit where
  args := fun x => [IsFacts K x]
  res := fun x _ => IsStr ""
def sCan (K : PySem.W.Frag) : FS (List Wl) Unit where
  args := fun x => [IsEv K, IsFacts K x]
  res := fun x _ => IsTup K [IsBool true, IsBool false]
def sBo (K : PySem.W.Frag) : FS QF Unit where
  args := fun x => [IsQn K x.z x.v, IsFacts K x.fl]
  res := fun x _ => IsBnd K (costAcc x.v.words (mc x.fl) x.v.words.length)
  pre := fun x => WordsOk x.v.words
theorem sc730 : FnScope ["self", "words", "word", "count"] ["self", "words"] (defScope (inClass (top 73) 0)) := ⟨rfl, rfl, rfl, by decide +kernel, rfl, by decide +kernel, by decide +kernel⟩
theorem sc731 : FnScope ["self", "word", "most", "other", "count"] ["self", "word"] (defScope (inClass (top 73) 1)) := ⟨rfl, rfl, rfl, by decide +kernel, rfl, by decide +kernel, by decide +kernel⟩
theorem sc732 : FnScope ["self", "word", "other", "_"] ["self", "word"] (defScope (inClass (top 73) 2)) := ⟨rfl, rfl, rfl, by decide +kernel, rfl, by decide +kernel, by decide +kernel⟩
theorem sc733 : FnScope ["self", "record", "word", "count"] ["self", "record"] (defScope (inClass (top 73) 3)) := ⟨rfl, rfl, rfl, by decide +kernel, rfl, by decide +kernel, by decide +kernel⟩
theorem sc715 : FnScope ["self"] ["self"] (defScope (inClass (top 71) 5)) := ⟨rfl, rfl, rfl, by decide +kernel, rfl, by decide +kernel, by decide +kernel⟩
theorem sc600 : FnScope ["self", "cost", "name", "can"] ["self", "cost", "name", "can"] (defScope (inClass (top 60) 0)) := ⟨rfl, rfl, rfl, by decide +kernel, rfl, by decide +kernel, by decide +kernel⟩
theorem sc62 : FnScope ["condition", "facts", "passing", "failing", "first", "second"] ["condition", "facts"] (defScope (top 62)) := ⟨rfl, rfl, rfl, by decide +kernel, rfl, by decide +kernel, by decide +kernel⟩
theorem sc64 : FnScope ["word", "facts", "most", "fact", "told"] ["word", "facts"] (defScope (top 64)) := ⟨rfl, rfl, rfl, by decide +kernel, rfl, by decide +kernel, by decide +kernel⟩
theorem sc65 : FnScope ["question", "facts", "total", "far", "word", "weight"] ["question", "facts"] (defScope (top 65)) := ⟨rfl, rfl, rfl, by decide +kernel, rfl, by decide +kernel, by decide +kernel⟩
theorem sc66 : FnScope ["facts", "least", "fact", "told"] ["facts"] (defScope (top 66)) := ⟨rfl, rfl, rfl, by decide +kernel, rfl, by decide +kernel, by decide +kernel⟩
theorem sc67 : FnScope ["question", "facts"] ["question", "facts"] (defScope (top 67)) := ⟨rfl, rfl, rfl, by decide +kernel, rfl, by decide +kernel, by decide +kernel⟩
section
variable {W : Wd} {f : Addr} {fd : FuncData} {kws : List (Str × V)}
theorem ok_counts (fx : Fx W) (Fn : FnM W "__init__" "Counts.__init__" (inClass (top 73) 0) kws f fd) : FnK W 1 f fd ["self", "words"] (spJ ((iCnt W.K).fs (He.ga W.K "Counts"))) := by
  refine fn_ok ((iCnt W.K).fs (He.ga W.K "Counts")) Fn sc730 (fun _ => rfl) fun r hr ⟨q, l⟩ F0 Fr hp => ?_
  have hp : l.length ≤ 1000 := hp
  refine sj_fldN 0 (ej_tupleL fx.tuple (aj_cons (EX.frzA (g := wp W.K) (d := d0) (l := l) (ex_lc [("word", 2), ("count", 3)] (fun _ => true) _ _ (fun _ => _) sc730.nd (blkOk_by rfl) (ij_lstM (wp W.K) d0 l (ej_var 1)) rfl
    (fun b i hi => gj_tup (gjs_cons (gj_name 2 (by decide) sc730.nd) (gjs_cons (gj_name 3 (by decide) sc730.nd) gjs_nil))) (fun b i hi => tsj_nil) (fun b i hi _ => ej_tup (aj_cons (ej_var 2) (aj_cons (ej_var 3) aj_nil))) (fun _ _ h => Bool.noConfusion h) (by omega))) aj_nil)) (ej_var 0) fx.cCnt ?_
  exact sj_fin ()
theorem ok_cb (fx : Fx W) (Fn : FnM W "count_bound" "Counts.count_bound" (inClass (top 73) 1) kws f fd) : FnK W 1 f fd ["self", "word"] (spJ (sCb W.K)) := by
  refine fn_ok (sCb W.K) Fn sc731 (fun _ => rfl) fun r hr ⟨l, w⟩ F0 Fr hp => ?_
  refine sj_set 2 ej_int ?_ sc731.nd
  refine sj_for [3, 4] (fun _ => True) (fun i => [some (IsCnt W.K l), some (IsStr w), some (IsInt (cbAcc w l i)), none, none]) _ (fun _ => []) (ij_tupM (wp W.K) d0 l (ej_fld 0 (ej_var 0) fx.cCnt)) trivial
    (fun i hi _ => gj_tup (gjs_cons (gj_name 3 (by decide) sc731.nd) (gjs_cons (gj_name 4 (by decide) sc731.nd) gjs_nil))) (fun F1 x1 i hi hP => ?_) (fun hP => ?_)
  · refine sj_if (tj_eqS (ej_var 3) (ej_var 1)) (fun h => sj_set 2 (ej_max2 fx.max (aj_cons (ej_var 2) (aj_cons (ej_var 4) aj_nil))) (sj_end ?_) sc731.nd) (fun h => sj_end ?_)
    · refine sj_eq 2 rfl (congrArg IsInt (show max _ _ = cbAcc w l (i + 1) from (if_pos (of_decide_eq_true h)).symm)) (sj_turn trivial)
    · refine sj_eq 2 rfl (congrArg IsInt (show cbAcc w l i = cbAcc w l (i + 1) from (if_neg (of_decide_eq_false h)).symm)) (sj_turn trivial)
  · exact sj_ret () (ej_var 2) rfl fun _ _ h => h
theorem ok_nw (fx : Fx W) (Fn : FnM W "names_word" "Counts.names_word" (inClass (top 73) 2) kws f fd) : FnK W 1 f fd ["self", "word"] (spJ (sNw W.K)) := by
  refine fn_ok (sNw W.K) Fn sc732 (fun _ => rfl) fun r hr ⟨l, w⟩ F0 Fr hp => ?_
  refine sj_for [2, 3] (fun i => ∀ j, j < i → (l.getD j d0).1 ≠ w) (fun i => [some (IsCnt W.K l), some (IsStr w), none, none]) _ (fun _ => []) (ij_tupM (wp W.K) d0 l (ej_fld 0 (ej_var 0) fx.cCnt)) (fun j hj => absurd hj (Nat.not_lt_zero _))
    (fun i hi _ => gj_tup (gjs_cons (gj_name 2 (by decide) sc732.nd) (gjs_cons (gj_name 3 (by decide) sc732.nd) gjs_nil))) (fun F1 x1 i hi hP => ?_) (fun hP => ?_)
  · refine sj_if (tj_eqS (ej_var 2) (ej_var 1)) (fun h => ?_) (fun h => sj_end (sj_turn ?_))
    · refine sj_ret () ej_bl rfl fun v F h2 => ?_
      show (IsBool (nw w l)).p v F
      rw [show nw w l = true from List.any_eq_true.mpr ⟨_, wl_mem hi, h⟩]; exact h2
    · intro j hj
      rcases Nat.lt_succ_iff_lt_or_eq.mp hj with h3 | rfl
      · exact hP j h3
      · exact of_decide_eq_false h
  · refine sj_ret () ej_bl rfl fun v F h2 => ?_
    show (IsBool (nw w l)).p v F
    rw [show nw w l = false from List.any_eq_false.mpr fun p hp e => by
      obtain ⟨j, hj, e2⟩ := List.getElem_of_mem hp
      apply hP j hj
      rw [List.getD_eq_getElem?_getD, List.getElem?_eq_getElem hj]
      show (l[j]).1 = w
      rw [e2]; exact of_decide_eq_true e]
    exact h2
theorem ok_holds (fx : Fx W) (Fn : FnM W "holds" "Counts.holds" (inClass (top 73) 3) kws f fd) (g1 : GM W 1 (He.ga W.K "Counts") "names_word" (spJ (sNw W.K))) (g2 : GM W 1 (He.ga W.K "Counts") "count_bound" (spJ (sCb W.K))) : FnK W 2 f fd ["self", "record"] (spJ (sHolds W.K)) := by
  refine fn_ok (sHolds W.K) Fn sc733 (fun _ => rfl) fun r hr ⟨l, v⟩ F0 Fr hp => ?_
  have hp : ∀ p ∈ v.words, nw p.1 l = true ∧ p.2 ≤ cb p.1 l := hp
  refine sj_for [2, 3] (fun i => True) (fun i => [some (IsCnt W.K l), some (IsRec W.K v), none, none]) _ (fun _ => []) (ij_tupM (wp W.K) d0 v.words (ej_fld 3 (ej_var 1) fx.cRec)) trivial
    (fun i hi _ => gj_tup (gjs_cons (gj_name 2 (by decide) sc733.nd) (gjs_cons (gj_name 3 (by decide) sc733.nd) gjs_nil))) (fun F1 x1 i hi hP => ?_) (fun hP => sj_ret () ej_bl rfl fun _ _ h => h)
  obtain ⟨h1, h2⟩ := hp _ (wl_mem hi)
  refine sj_ifF ((tj_b (bj_or (tj_not (tj_val (ej_meth (l, (v.words.getD i d0).1) g1 hr (ej_var 0) (recv_ins (by decide)) (aj_cons (ej_var 2) aj_nil)))) fun _ => bj_or1 (tj_gt (ej_var 3) (ej_meth (l, (v.words.getD i d0).1) g2 hr (ej_var 0) (recv_ins (by decide)) (aj_cons (ej_var 2) aj_nil))))).eq (by
    rw [show nw (l, (v.words.getD i d0).1).2 (l, (v.words.getD i d0).1).1 = true from h1]
    rw [decide_eq_false (show ¬ cb (v.words.getD i d0).1 l < (v.words.getD i d0).2 by omega)]; rfl)) (sj_end (sj_turn trivial))
theorem ok_nm (Fn : FnM W "name_bound" "Fact.name_bound" (inClass (top 71) 5) kws f fd) : FnK W 1 f fd ["self"] (spJ (sNone W.K)) := by
  refine fn_ok (sNone W.K) Fn sc715 (fun _ => rfl) fun r hr l F0 Fr hp => ?_
  exact sj_ret () ej_non rfl fun _ _ h => h
theorem ok_bound (fx : Fx W) (Fn : FnM W "__init__" "Bound.__init__" (inClass (top 60) 0) kws f fd) : FnK W 1 f fd ["self", "cost", "name", "can"] (spJ ((iBnd W.K).fs (He.ga W.K "Bound"))) := by
  refine fn_ok ((iBnd W.K).fs (He.ga W.K "Bound")) Fn sc600 (fun _ => rfl) fun r hr ⟨q, c⟩ F0 Fr hp => ?_
  refine sj_fldN 0 (ej_var 1) (ej_var 0) fx.cBnd ?_
  refine sj_fldN 0 (ej_var 2) (ej_var 0) fx.cBnd ?_
  refine sj_fldN 0 (ej_var 3) (ej_var 0) fx.cBnd ?_
  exact sj_fin ()
theorem ok_mc (fx : Fx W) (Fn : FnD0 W "most_count" (top 64) f fd) (g2 : GM W 1 (He.ga W.K "Counts") "count_bound" (spJ (sCb W.K))) : FnK W 2 f fd ["word", "facts"] (spJ (sMc W.K)) := by
  refine fn_ok (sMc W.K) Fn sc64 (fun _ => rfl) fun r hr ⟨w, fl⟩ F0 Fr hp => ?_
  refine sj_set 2 (ej_gI fx.mostCount) ?_ sc64.nd
  refine sj_for [3] (fun i => True) (fun i => [some (IsStr w), some (IsFacts W.K fl), some (IsInt (mcAcc w fl i)), none, none]) _ (fun _ => []) (ij_lstM (IsCnt W.K) [] fl (ej_var 1)) trivial
    (fun i hi _ => gj_name 3 (by decide) sc64.nd) (fun F1 x1 i hi hP => ?_) (fun hP => sj_ret () (ej_var 2) rfl fun _ _ h => h)
  refine sj_set 4 (ej_meth (fl.getD i [], w) g2 hr (ej_var 3) (recv_ins (by decide)) (aj_cons (ej_var 0) aj_nil)) ?_ sc64.nd
  refine sj_ifT (tj_notN (ej_var 4) (nn_v (v := .int (cb w (fl.getD i []))))) ?_
  exact sj_set 2 (ej_min2 fx.min (aj_cons (ej_var 2) (aj_cons (ej_var 4) aj_nil))) (sj_end (sj_turn trivial)) sc64.nd
theorem ok_lc (fx : Fx W) (Fn : FnD0 W "least_cost" (top 65) f fd) (g : GF W 2 "most_count" (spJ (sMc W.K))) : FnK W 3 f fd ["question", "facts"] (spJ (sLc W.K)) := by
  refine fn_ok (sLc W.K) Fn sc65 (fun _ => rfl) fun r hr x F0 Fr hp => ?_
  obtain ⟨h3, h4, h5⟩ := hp
  refine sj_set 2 ej_int ?_ sc65.nd
  refine sj_ifF ((tj_neI (ej_fld 1 (ej_fld 1 (ej_var 0) fx.cQn) fx.cQry) ej_int).eq rfl) (sj_end ?_)
  refine sj_for [4, 5] (fun i => True) (fun i => [some (IsQn W.K x.z x.v), some (IsFacts W.K x.fl), some (IsInt (costAcc x.v.words (mc x.fl) i)), none, none, none]) _ (fun _ => []) (ij_tupM (wp W.K) d0 x.v.words (ej_fld 2 (ej_fld 1 (ej_var 0) fx.cQn) fx.cQry)) trivial
    (fun i hi _ => gj_tup (gjs_cons (gj_name 4 (by decide) sc65.nd) (gjs_cons (gj_name 5 (by decide) sc65.nd) gjs_nil))) (fun F1 x1 i hi hP => ?_) (fun hP => sj_ret () (ej_var 2) rfl fun _ _ h => h)
  have := h3 _ (wl_mem hi)
  exact sj_set 2 (ej_sub (ej_var 2) (ej_mul (ej_var 5) (ej_call ((x.v.words.getD i d0).1, x.fl) g hr (aj_cons (ej_var 4) (aj_cons (ej_var 1) aj_nil))) (Or.inl ⟨by omega, by omega⟩))) (sj_turn trivial) sc65.nd
theorem ok_ln (fx : Fx W) (Fn : FnD0 W "least_name" (top 66) f fd) (g : GM W 1 (He.ga W.K "Counts") "name_bound" (spJ (sNone W.K))) : FnK W 2 f fd ["facts"] (spJ (sLn W.K)) := by
  refine fn_ok (sLn W.K) Fn sc66 (fun _ => rfl) fun r hr fl F0 Fr hp => ?_
  refine sj_set 1 ej_str ?_ sc66.nd
  refine sj_for [2] (fun i => True) (fun i => [some (IsFacts W.K fl), some (IsStr ""), none, none]) _ (fun _ => []) (ij_lstM (IsCnt W.K) [] fl (ej_var 0)) trivial
    (fun i hi _ => gj_name 2 (by decide) sc66.nd) (fun F1 x1 i hi hP => ?_) (fun hP => sj_ret () (ej_var 1) rfl fun _ _ h => h)
  refine sj_set 3 (ej_meth0 (fl.getD i []) g hr (ej_var 2) (recv_ins (by decide))) ?_ sc66.nd
  exact sj_ifF (tj_b (bj_and (t := false) (u := false) (tj_notN0 (ej_var 3)) fun h => Bool.noConfusion h)) (sj_end (sj_turn trivial))
theorem ok_can (fx : Fx W) (Fn : FnD0 W "can_pass" (top 62) f fd) (gE : W.mg "Every" = some (.ref (cEv W.K))) (T : ITy W.K (cEv W.K)) (hk : PySem.W.kitOne W.K (.ref (cEv W.K)) (.ref (cEv W.K)) = some true) : FnK W 1 f fd ["condition", "facts"] (spJ (sCan W.K)) := by
  refine fn_ok (sCan W.K) Fn sc62 (fun _ => rfl) fun r hr fl F0 Fr hp => ?_
  refine sj_ifT (tj_val (ej_isi fx.isi T hk (aj_cons (ej_var 0) (aj_cons (ej_gA gE) aj_nil)))) ?_
  exact sj_ret () (ej_tup (aj_cons ej_bl (aj_cons ej_bl aj_nil))) rfl fun _ _ h => h
theorem ok_bo (fx : Fx W) (Fn : FnD0 W "bound_of" (top 67) f fd) (g1 : GF W 3 "least_cost" (spJ (sLc W.K))) (g2 : GF W 2 "least_name" (spJ (sLn W.K))) (g3 : GF W 1 "can_pass" (spJ (sCan W.K))) (gB : GC W 1 "Bound" (He.ga W.K "Bound") (spJ ((iBnd W.K).fs (He.ga W.K "Bound")))) : FnK W 4 f fd ["question", "facts"] (spJ (sBo W.K)) := by
  refine fn_ok (sBo W.K) Fn sc67 (fun _ => rfl) fun r hr x F0 Fr hp => ?_
  exact sj_ret () (ej_make (costAcc x.v.words (mc x.fl) x.v.words.length) gB hr (aj_cons (ej_call x g1 hr (aj_cons (ej_var 0) (aj_cons (ej_var 1) aj_nil)) rfl hp) (aj_cons (ej_call x.fl g2 hr (aj_cons (ej_var 1) aj_nil)) (aj_cons (ej_ixT (n := 0) (ej_call x.fl g3 hr (aj_cons (ej_fld 2 (ej_var 0) fx.cQn) (aj_cons (ej_var 1) aj_nil))) ej_int) aj_nil)))) rfl fun _ _ h => h
end
end K92
namespace K92
open PySem PySem.Spec PyProof.Rows L2 J
theorem sc77 : FnScope ["_law_state", "_law_size", "_law_measure", "_law_width"] ["_law_state"] (defScope (top 77)) := ⟨rfl, rfl, rfl, by decide +kernel, rfl, by decide +kernel, by decide +kernel⟩
theorem sc78 : FnScope ["_law_state", "_law_schema_here", "_law_k"] ["_law_state", "_law_schema_here"] (defScope (top 78)) := ⟨rfl, rfl, rfl, by decide +kernel, rfl, by decide +kernel, by decide +kernel⟩
theorem sc79 : FnScope ["_law_state", "_law_names", "_law_words_here", "_law_name"] ["_law_state", "_law_names"] (defScope (top 79)) := ⟨rfl, rfl, rfl, by decide +kernel, rfl, by decide +kernel, by decide +kernel⟩
theorem sc80 : FnScope ["_law_state", "_law_own", "_law_words_here", "_law_name", "_law_mine", "_law_word", "_law_count"] ["_law_state", "_law_own"] (defScope (top 80)) := ⟨rfl, rfl, rfl, by decide +kernel, rfl, by decide +kernel, by decide +kernel⟩
theorem sc81 : FnScope ["_law_words_here", "_law_name", "_law_best", "_law_word", "_law_count"] ["_law_words_here", "_law_name"] (defScope (top 81)) := ⟨rfl, rfl, rfl, by decide +kernel, rfl, by decide +kernel, by decide +kernel⟩
abbrev GSch (W : Wd) : Prop := GCK W 3 "Schema" (He.ga W.K "Schema") (spJ ((iSch W.K).fs (He.ga W.K "Schema"))) 1 ["width", "measure", "fields"] (fun vs zs => vs ++ zs)
abbrev GNx (W : Wd) : Prop := GF W 2 "_law_next" (spJ (sNx W.K))
theorem set_self {β : Type} {P : β} : ∀ {l : List β} {i : Nat}, l[i]? = some P → l.set i P = l
  | [], _, h => by simp at h
  | y :: l, 0, h => by
    have e : y = P := by simpa using h
    subst e; rfl
  | y :: l, i + 1, h => congrArg (y :: ·) (set_self (l := l) (i := i) (by simpa using h))
theorem ej_next {X : Cx} {G : Gam} {L : List Atm} {st : Addr} {p p2 p3 pos : Pos} {j j0 : Nat} (m : Int) (i : Nat) (g : GF ⟨X.prog, X.w, X.K, X.mg, X.base⟩ 2 "_law_next" (spJ (sNx X.K))) (hr : Room j X.A) (ha : EJ X G L (.Name "_law_state" p3) (IsAddr st) L) (hi : L[i]? = some (AtSt X.K st) := by rfl) (hm : 0 < m ∧ m ≤ 1000 := by decide) (hk : 2 ≤ j := by omega) (hg : Gl X "_law_next" := by rfl) :
    EJ X G L (.Call (.Name "_law_next" p) [.Name "_law_state" p3, .Constant (.int m) j0 p2] [] pos) (IsR m) L := by
  have := ej_callAt (S := sNx X.K) (P := AtSt X.K st) (P' := AtSt X.K st) (st, m) i g hr (aj_cons ha (aj_cons (ej_int (j := j0) (pos := p2)) aj_nil)) rfl hm hi rfl rfl hk hg (by decide) rfl rfl (p := p) (pos := pos)
  rwa [set_self hi] at this
def sLs (K : PySem.W.Frag) : FS Addr Unit where
  args := fun st => [IsAddr st]
  own := fun st => [AtSt K st]
  res := fun st _ => IsEx fun z : {z : SchD // z.ok} => IsSch K z.1
  out := fun st _ => [AtSt K st]
def sVec (K : PySem.W.Frag) : FS (Addr × SchD) Unit where
  args := fun z => [IsAddr z.1, IsSch K z.2]
  own := fun z => [AtSt K z.1]
  res := fun z _ => IsEx fun v : {v : List Int // VecOk z.2 v} => IsLst K (v.1.map IsInt)
  out := fun z _ => [AtSt K z.1]
  pre := fun z => z.2.ok
def WOk (ns : List Str) (l : Wl) : Prop := (l.map (·.1)).Sublist ns ∧ ∀ p ∈ l, 1 ≤ p.2 ∧ p.2 ≤ 18
def sWords (K : PySem.W.Frag) : FS (Addr × List Str) Unit where
  args := fun z => [IsAddr z.1, IsLst K (z.2.map IsStr)]
  own := fun z => [AtSt K z.1]
  res := fun z _ => IsEx fun l : {l : Wl // WOk z.2 l} => IsWL K l.1
  out := fun z _ => [AtSt K z.1]
  pre := fun z => z.2.length ≤ 1000
def sLb (K : PySem.W.Frag) : FS (Wl × Str) Unit where
  args := fun z => [IsW K z.1, IsStr z.2]
  res := fun z _ => IsInt (cb z.2 z.1)
section
variable {W : Wd} {f : Addr} {fd : FuncData} {kws : List (Str × V)}
theorem meas_lt {d : Int} (h : 0 ≤ d ∧ d < 3) : d.toNat < measL.length := by show d.toNat < 3; omega
theorem ok_lschema (fx : Fx W) (Fn : FnD0 W "_law_schema" (top 77) f fd) (gN : GNx W) (gS : GSch W) : FnK W 5 f fd ["_law_state"] (spJ (sLs W.K)) := by
  refine fn_ok (sLs W.K) Fn sc77 (fun _ => rfl) fun r hr st F0 Fr hp => ?_
  refine sj_setE 1 (ej_op op_add ej_int (ej_next 3 0 gN hr (ej_var 0)) (oj_exR fun y => oj_I0)) (fun y => ?_) sc77.nd
  refine sj_setE 2 (ej_ixR (Rb := IsR 3) (R := IsEx fun y : {d : Int // 0 ≤ d ∧ d < 3} => IsStr (measL.getD y.1.toNat "")) ix_list (ej_lst (aj_cons ej_str (aj_cons ej_str (aj_cons ej_str aj_nil)))) (ej_next 3 0 gN hr (ej_var 0)) (oj_exR fun y => oj_ixL (n := y.1.toNat) (by rw [Int.toNat_of_nonneg y.2.1]) (mapGet IsStr measL "" (meas_lt y.2)))) (fun y2 => ?_) sc77.nd
  have hm : measL.getD y2.1.toNat "" = "square" ∨ measL.getD y2.1.toNat "" = "dot" ∨ measL.getD y2.1.toNat "" = "bits" := by
    have h := y2.2
    have : y2.1.toNat = 0 ∨ y2.1.toNat = 1 ∨ y2.1.toNat = 2 := by omega
    rcases this with e | e | e <;> rw [e] <;> decide +kernel
  generalize measL.getD y2.1.toNat "" = ms at hm ⊢
  refine sj_set 3 ej_str ?_ sc77.nd
  refine sj_ifJ [some (IsAddr st), some (IsInt (1 + y.1)), some (IsStr ms), some (IsStr (if ms = "bits" then "bit" else "small"))] [AtSt W.K st] (tj_eqS (ej_var 2) ej_str) (fun h => ?_) (fun h => ?_) ?_
  · rw [if_pos (of_decide_eq_true h)]
    exact sj_set 3 ej_str (sj_nil fun _ _ h => h) sc77.nd
  · rw [if_neg (of_decide_eq_false h)]
    exact sj_nil fun _ _ h => h
  have hy := y.2
  have ok : SchD.ok ⟨(1 + y.1).toNat, if ms = "bits" then "bit" else "small", ms⟩ := by
    refine ⟨by show 1 ≤ (1 + y.1).toNat; omega, by show (1 + y.1).toNat ≤ 3; omega, ?_⟩
    rcases hm with e | e | e <;> subst e
    · exact Or.inl ⟨(by decide +kernel : (if ("square" : Str) = "bits" then ("bit" : Str) else "small") = "small"), Or.inl rfl⟩
    · exact Or.inl ⟨(by decide +kernel : (if ("dot" : Str) = "bits" then ("bit" : Str) else "small") = "small"), Or.inr rfl⟩
    · exact Or.inr ⟨(by decide +kernel : (if ("bits" : Str) = "bits" then ("bit" : Str) else "small") = "bit"), rfl⟩
  refine sj_eq 1 rfl (congrArg IsInt (show 1 + y.1 = (((1 + y.1).toNat : Nat) : Int) by omega)) ?_
  refine sj_ret () (ej_makeK (⟨(1 + y.1).toNat, if ms = "bits" then "bit" else "small", ms⟩ : SchD) gS hr (aj_cons (ej_var 1) aj_nil) (kj_cons (ej_var 3) (kj_cons (ej_var 2) (kj_cons (ej_tup (aj_cons (ej_tup (aj_cons ej_str (aj_cons ej_str aj_nil))) (aj_cons (ej_tup (aj_cons ej_str (aj_cons ej_str aj_nil))) aj_nil))) kj_nil))) (fun q vs zs F h1 h2 => ⟨rfl, h1.append h2⟩) (hp := ok)) rfl fun v F h => ⟨⟨_, ok⟩, h⟩
theorem ok_vec (fx : Fx W) (Fn : FnD0 W "_law_vector" (top 78) f fd) (gN : GNx W) : FnK W 3 f fd ["_law_state", "_law_schema_here"] (spJ (sVec W.K)) := by
  refine fn_ok (sVec W.K) Fn sc78 (fun _ => rfl) fun r hr ⟨st, z⟩ F0 Fr hp => ?_
  have hp : z.ok := hp
  have hz : z.size ≤ 3 := hp.2.1
  refine sj_if (tj_eqS (ej_fld 1 (ej_var 1) fx.cSch) ej_str) (fun h => ?_) fun h => sj_end ?_
  · have hw : z.width = "bit" := of_decide_eq_true h
    refine sj_ret () (EJ.pick z.size ⟨0, by decide⟩ (EX.frzL (ex_lc [("_law_k", 2)] (fun _ => true) (fun _ => IsR 2) _ (fun _ => [AtSt W.K st]) sc78.nd (blkOk_by rfl) (ij_range1 fx.range (aj_cons (ej_fld 0 (ej_var 1) fx.cSch) aj_nil) rfl (by omega)) rfl
      (fun b i hi => gj_name 2 (by decide) sc78.nd) (fun b i hi => tsj_nil) (fun b i hi _ => ej_next 2 0 gN hr (ej_var 0)) (fun _ _ h => Bool.noConfusion h) (by omega))) (accOf_all _)) rfl fun v F ⟨g, hg⟩ => ?_
    refine ⟨⟨(List.range z.size).map fun i => (g i).1, by simp, fun x hx => ?_⟩, ?_⟩
    · obtain ⟨i, _, rfl⟩ := List.mem_map.mp hx
      have := (g i).2
      show loOf z.width ≤ _ ∧ _ ≤ hiOf z.width
      rw [hw, show loOf "bit" = 0 by decide +kernel, show hiOf "bit" = 1 by decide +kernel]
      omega
    · show (IsLst W.K (List.map IsInt ((List.range z.size).map fun i => (g i).1))).p v F
      rw [List.map_map]; exact hg
  · have hw : z.width = "small" := by
      rcases hp.2.2 with ⟨e, _⟩ | ⟨e, _⟩
      · exact e
      · exact absurd e (of_decide_eq_false h)
    refine sj_ret () (EJ.pick z.size ⟨0, by decide⟩ (EX.frzL (ex_lc [("_law_k", 2)] (fun _ => true) (fun _ => IsEx fun y : {d : Int // 0 ≤ d ∧ d < 9} => IsInt (y.1 - 4)) _ (fun _ => [AtSt W.K st]) sc78.nd (blkOk_by rfl) (ij_range1 fx.range (aj_cons (ej_fld 0 (ej_var 1) fx.cSch) aj_nil) rfl (by omega)) rfl
      (fun b i hi => gj_name 2 (by decide) sc78.nd) (fun b i hi => tsj_nil) (fun b i hi _ => ej_op op_sub (ej_next 9 0 gN hr (ej_var 0)) ej_int (oj_exL fun y => oj_I0)) (fun _ _ h => Bool.noConfusion h) (by omega))) (accOf_all _)) rfl fun v F ⟨g, hg⟩ => ?_
    refine ⟨⟨(List.range z.size).map fun i => (g i).1 - 4, by simp, fun x hx => ?_⟩, ?_⟩
    · obtain ⟨i, _, rfl⟩ := List.mem_map.mp hx
      have := (g i).2
      show loOf z.width ≤ _ ∧ _ ≤ hiOf z.width
      rw [hw, show loOf "small" = -128 by decide +kernel, show hiOf "small" = 127 by decide +kernel]
      omega
    · show (IsLst W.K (List.map IsInt ((List.range z.size).map fun i => (g i).1 - 4))).p v F
      rw [List.map_map]; exact hg
theorem getD_map {α β : Type} (g : α → β) (d : α) (e : β) {l : List α} {i : Nat} (h : i < l.length) : (l.map g).getD i e = g (l.getD i d) := by
  rw [List.getD_eq_getElem?_getD, List.getElem?_map, List.getD_eq_getElem?_getD, List.getElem?_eq_getElem h]; rfl
theorem ok_lb (Fn : FnD0 W "_law_bound" (top 81) f fd) : FnK W 1 f fd ["_law_words_here", "_law_name"] (spJ (sLb W.K)) := by
  refine fn_ok (sLb W.K) Fn sc81 (fun _ => rfl) fun r hr ⟨l, w⟩ F0 Fr hp => ?_
  refine sj_set 2 ej_int ?_ sc81.nd
  refine sj_for [3, 4] (fun _ => True) (fun i => [some (IsW W.K l), some (IsStr w), some (IsInt (cbAcc w l i)), none, none]) _ (fun _ => []) (ij_tupM (wp W.K) d0 l (ej_var 0)) trivial
    (fun i hi _ => gj_tup (gjs_cons (gj_name 3 (by decide) sc81.nd) (gjs_cons (gj_name 4 (by decide) sc81.nd) gjs_nil))) (fun F1 x1 i hi hP => ?_) (fun hP => sj_ret () (ej_var 2) rfl fun _ _ h => h)
  refine sj_if (tj_b (bj_and (tj_eqS (ej_var 3) (ej_var 1)) fun _ => bj_and1 (tj_gt (ej_var 4) (ej_var 2)))) (fun h => sj_set 2 (ej_var 4) (sj_end ?_) sc81.nd) (fun h => sj_end ?_)
  · have h := Bool.and_eq_true_iff.mp h
    have h1 : (l.getD i d0).1 = w := of_decide_eq_true h.1
    have h2 : cbAcc w l i < (l.getD i d0).2 := of_decide_eq_true h.2
    refine sj_eq 2 rfl (congrArg IsInt (show (l.getD i d0).2 = cbAcc w l (i + 1) from ?_)) (sj_turn trivial)
    show _ = if (l.getD i d0).1 = w then max (cbAcc w l i) (l.getD i d0).2 else cbAcc w l i
    rw [if_pos h1]; omega
  · refine sj_eq 2 rfl (congrArg IsInt (show cbAcc w l i = cbAcc w l (i + 1) from ?_)) (sj_turn trivial)
    show _ = if (l.getD i d0).1 = w then max (cbAcc w l i) (l.getD i d0).2 else cbAcc w l i
    by_cases h1 : (l.getD i d0).1 = w
    · have h2 : ¬ cbAcc w l i < (l.getD i d0).2 := fun h2 => by
        have : (decide ((l.getD i d0).1 = w) && decide (cbAcc w l i < (l.getD i d0).2)) = false := h
        rw [decide_eq_true h1, decide_eq_true h2] at this; cases this
      rw [if_pos h1]; omega
    · rw [if_neg h1]
/-- the words gathered so far, in their list -/
abbrev AtW (K : PySem.W.Frag) (q : Addr) (P : Wl → Prop) : Atm := AtEx fun l : {l : Wl // P l} => AtL q (l.1.map (wp K))
theorem atw_snoc {K : PySem.W.Frag} {q : Addr} {l : Wl} {n : Str} {α : Type} {v : α → Int} {P : Wl → Prop} (hP : ∀ y, P (l ++ [(n, v y)])) : ∀ F h, (AtL q (l.map (wp K) ++ [IsEx fun y => IsTup K [IsStr n, IsInt (v y)]])).p F h → (AtW K q P).p F h := fun F h w => by
  obtain ⟨y, hy⟩ := atl_pick w
  refine ⟨⟨_, hP y⟩, ?_⟩
  show (AtL q ((l ++ [(n, v y)]).map (wp K))).p F h
  rw [List.map_append]; exact hy
theorem ok_words (fx : Fx W) (Fn : FnD0 W "_law_words" (top 79) f fd) (gN : GNx W) : FnK W 3 f fd ["_law_state", "_law_names"] (spJ (sWords W.K)) := by
  refine fn_ok (sWords W.K) Fn sc79 (fun _ => rfl) fun r hr ⟨st, ns⟩ F0 Fr hp => ?_
  have hp : ns.length ≤ 1000 := hp
  refine sj_setX 2 (ex_lst aj_nil) (fun q => ?_) sc79.nd
  refine sj_wkA (P' := AtW W.K q (WOk (ns.take 0))) 0 rfl (fun F h w => ⟨⟨[], List.Sublist.refl _, fun _ h => absurd h (by simp)⟩, w⟩) ?_
  refine sj_for [3] (fun _ => True) (fun i => [some (IsAddr st), some (IsLst W.K (ns.map IsStr)), some (IsAddr q), none]) _ (fun i => [AtW W.K q (WOk (ns.take i)), AtSt W.K st]) (ij_lstM IsStr "" ns (ej_var 1)) trivial
    (fun i hi _ => gj_name 3 (by decide) sc79.nd) (fun F1 x1 i hi hP => ?_) (fun hP => ?_)
  · refine sj_ifX (tx_cmp op_eq (ej_next 2 1 gN hr (ej_var 0)) ej_int (fun y => oj_eqI) (nomark _)) (fun y h => ?_) (fun y h => sj_end ?_)
    · refine sj_opA 0 rfl fun ⟨l, hl⟩ => ?_
      have hlen : l.length ≤ 1000 := by
        have := hl.1.length_le
        rw [List.length_map, List.length_take] at this; omega
      refine sj_expr (ej_append 0 (ej_var 2) ((ej_tup (aj_cons (ej_var 3) (aj_cons (ej_op op_add ej_int (ej_next 18 1 gN hr (ej_var 0)) (oj_exR fun y => oj_I0)) aj_nil))).to tupEx) rfl rfl (by show (l.map (wp W.K)).length < 100000; rw [List.length_map]; omega)) ?_
      refine sj_wkA (P' := AtW W.K q (WOk (ns.take (i + 1)))) 0 rfl (atw_snoc (v := fun y : {d : Int // 0 ≤ d ∧ d < 18} => 1 + y.1) fun y => ⟨?_, fun p hp => ?_⟩) (sj_end (sj_turn trivial))
      · rw [List.map_append, show ns.take (i + 1) = ns.take i ++ [ns.getD i ""] by
          have := take_next (id : Str → Str) "" hi
          simpa using this]
        exact hl.1.append (List.Sublist.refl _)
      · rcases List.mem_append.mp hp with h1 | h1
        · exact hl.2 p h1
        · have := y.2
          have e := List.mem_singleton.mp h1
          rw [e]; show 1 ≤ 1 + y.1 ∧ 1 + y.1 ≤ 18; omega
    · refine sj_wkA (P' := AtW W.K q (WOk (ns.take (i + 1)))) 0 rfl (fun F h ⟨⟨l, hl⟩, w⟩ => ⟨⟨l, ?_, hl.2⟩, w⟩) (sj_turn trivial)
      exact hl.1.trans (by
        rw [show ns.take (i + 1) = ns.take i ++ [ns.getD i ""] by
          have := take_next (id : Str → Str) "" hi
          simpa using this]
        exact List.sublist_append_left _ _)
  · refine sj_opA 0 rfl fun ⟨l, hl⟩ => ?_
    refine sj_frzL 2 0 rfl rfl ?_
    refine sj_ret () (ej_var 2) rfl fun v F h => ⟨⟨l, ?_⟩, h⟩
    rw [List.take_length] at hl; exact hl
end
end K92
namespace K92
open PySem PySem.Spec PyProof.Rows L2 J
def abcd : List Str := ["a", "b", "c", "d"]
def CInv (ol : Wl) (i : Nat) (l : Wl) : Prop := l.length ≤ i ∧ ∀ p ∈ ol, p.1 ∈ abcd.take i → ∃ c, (p.1, c) ∈ l ∧ p.2 ≤ c
def COk (ol l : Wl) : Prop := l.length ≤ 4 ∧ ∀ p ∈ ol, p.1 ∈ abcd → ∃ c, (p.1, c) ∈ l ∧ p.2 ≤ c
def sCounts (K : PySem.W.Frag) : FS (Addr × Wl) Unit where
  args := fun z => [IsAddr z.1, IsWL K z.2]
  own := fun z => [AtSt K z.1]
  res := fun z _ => IsEx fun l : {l : Wl // COk z.2 l} => IsCnt K l.1
  out := fun z _ => [AtSt K z.1]
  pre := fun z => z.2.length ≤ 1000 ∧ (z.2.map (·.1)).Nodup
theorem same_name {ol : Wl} (nd : (ol.map (·.1)).Nodup) {p c : Str × Int} (hp : p ∈ ol) (hc : c ∈ ol) (e : p.1 = c.1) : p = c := by
  obtain ⟨i, hi, e1⟩ := List.getElem_of_mem hp
  obtain ⟨j, hj, e2⟩ := List.getElem_of_mem hc
  have h : (ol.map (·.1))[i]'(by rw [List.length_map]; exact hi) = (ol.map (·.1))[j]'(by rw [List.length_map]; exact hj) := by
    rw [List.getElem_map, List.getElem_map, e1, e2, e]
  have := (List.getElem_inj nd).mp h
  subst this
  rw [← e1, ← e2]
section
variable {W : Wd} {f : Addr} {fd : FuncData} {kws : List (Str × V)}
theorem ok_lcounts (fx : Fx W) (Fn : FnD0 W "_law_counts" (top 80) f fd) (gN : GNx W) (gC : GC W 1 "Counts" (He.ga W.K "Counts") (spJ ((iCnt W.K).fs (He.ga W.K "Counts")))) : FnK W 3 f fd ["_law_state", "_law_own"] (spJ (sCounts W.K)) := by
  refine fn_ok (sCounts W.K) Fn sc80 (fun _ => rfl) fun r hr ⟨st, ol⟩ F0 Fr hp => ?_
  obtain ⟨hlen, hnd⟩ := hp
  have hlen : ol.length ≤ 1000 := hlen
  have hnd : (ol.map (·.1)).Nodup := hnd
  refine sj_setX 2 (ex_lst aj_nil) (fun q => ?_) sc80.nd
  refine sj_wkA (P' := AtW W.K q (CInv ol 0)) 0 rfl (fun F h w => ⟨⟨[], Nat.le_refl _, fun _ _ h => absurd h (by simp)⟩, w⟩) ?_
  refine sj_for [3] (fun _ => True) (fun i => [some (IsAddr st), some (IsWL W.K ol), some (IsAddr q), none, none, none, none]) _ (fun i => [AtW W.K q (CInv ol i), AtSt W.K st]) (ij_lstM IsStr "" abcd (ej_lst (aj_cons ej_str (aj_cons ej_str (aj_cons ej_str (aj_cons ej_str aj_nil)))))) trivial
    (fun i hi _ => gj_name 3 (by decide) sc80.nd) (fun F1 x1 i hi hP => ?_) (fun hP => ?_)
  · have tk : abcd.take (i + 1) = abcd.take i ++ [abcd.getD i ""] := by
      have := take_next (id : Str → Str) "" hi
      simpa using this
    generalize hnm : abcd.getD i "" = nm at tk ⊢
    refine sj_setLc 4 [("_law_word", 5), ("_law_count", 6)] (fun j => decide ((ol.getD j d0).1 = nm)) (fun j => IsInt (ol.getD j d0).2) _ (fun _ => [AtW W.K q (CInv ol i), AtSt W.K st]) sc80.nd (blkOk_by rfl) (ij_lstM (wp W.K) d0 ol (ej_var 1)) rfl
      (fun b i hi => gj_tup (gjs_cons (gj_name 5 (by decide) sc80.nd) (gjs_cons (gj_name 6 (by decide) sc80.nd) gjs_nil))) (fun b i hi => tsj_one (tj_eqS (ej_var 5) (ej_var 3))) (fun b i hi _ => ej_var 6) (fun _ _ _ => rfl) (by omega) (fun q2 => ?_)
    refine sj_frzL 4 0 rfl rfl ?_
    refine sj_eq 4 rfl (congrArg (IsLst W.K) (accFilter (fun p : Str × Int => decide (p.1 = nm)) (fun p => IsInt p.2) d0 ol)) ?_
    generalize hfl : ol.filter (fun p => decide (p.1 = nm)) = fl
    refine sj_if (tj_gt (ej_lenL fx.len (aj_cons (ej_var 4) aj_nil)) ej_int) (fun h => ?_) fun h => ?_
    · have h : (0 : Int) < ((fl.map fun p => IsInt p.2).length : Int) := of_decide_eq_true h
      obtain ⟨c, rest, e⟩ : ∃ c rest, fl = c :: rest := by
        cases fl with
        | nil => simp at h
        | cons c rest => exact ⟨c, rest, rfl⟩
      have hc : c ∈ ol ∧ c.1 = nm := by
        have : c ∈ ol.filter (fun p => decide (p.1 = nm)) := by rw [hfl, e]; exact List.mem_cons_self
        have := List.mem_filter.mp this
        exact ⟨this.1, of_decide_eq_true this.2⟩
      refine sj_opA 0 rfl fun ⟨l, hl⟩ => ?_
      have hi4 : i < 4 := hi
      have hl1 := hl.1
      refine sj_expr (ej_append 0 (ej_var 2) ((ej_tup (aj_cons (ej_var 3) (aj_cons (ej_op op_add (ej_ixL (n := 0) (R := IsInt c.2) (ej_var 4) ej_int (by rw [e]; rfl)) (ej_next 3 1 gN hr (ej_var 0)) (oj_exR fun y => oj_I0)) aj_nil))).to tupEx) rfl rfl (by show (l.map (wp W.K)).length < 100000; rw [List.length_map]; omega)) ?_
      refine sj_wkA (P' := AtW W.K q (CInv ol (i + 1))) 0 rfl (atw_snoc (v := fun y : {d : Int // 0 ≤ d ∧ d < 3} => c.2 + y.1) fun y => ⟨?_, fun p hp hm => ?_⟩) (sj_end (sj_turn trivial))
      · rw [List.length_append]; show l.length + 1 ≤ i + 1; omega
      · rw [tk] at hm
        rcases List.mem_append.mp hm with h1 | h1
        · obtain ⟨d, h2, h3⟩ := hl.2 p hp h1
          exact ⟨d, List.mem_append_left _ h2, h3⟩
        · have e1 : p.1 = nm := List.mem_singleton.mp h1
          have e2 := same_name hnd hp hc.1 (e1.trans hc.2.symm)
          have := y.2
          refine ⟨c.2 + y.1, List.mem_append_right _ ?_, by rw [e2]; omega⟩
          rw [e1]; exact List.mem_singleton.mpr rfl
    · have h : ¬ (0 : Int) < ((fl.map fun p => IsInt p.2).length : Int) := of_decide_eq_false h
      have e : fl = [] := by
        cases fl with
        | nil => rfl
        | cons c rest => exact absurd (by simp) h
      have none_ : ∀ p ∈ ol, p.1 ≠ nm := fun p hp e1 => by
        have : p ∈ ol.filter (fun p => decide (p.1 = nm)) := List.mem_filter.mpr ⟨hp, decide_eq_true e1⟩
        rw [hfl, e] at this; cases this
      have old : ∀ {p : Str × Int}, p ∈ ol → p.1 ∈ abcd.take (i + 1) → p.1 ∈ abcd.take i := fun {p} hp hm => by
        rw [tk] at hm
        rcases List.mem_append.mp hm with h1 | h1
        · exact h1
        · exact absurd (List.mem_singleton.mp h1) (none_ p hp)
      refine sj_ifX (tx_cmp op_gt (ej_next 3 1 gN hr (ej_var 0)) ej_int (fun y => oj_gt) (nomark _)) (fun y h => ?_) (fun y h => ?_)
      · refine sj_opA 0 rfl fun ⟨l, hl⟩ => ?_
        have hi4 : i < 4 := hi
        have hl1 := hl.1
        refine sj_expr (ej_append 0 (ej_var 2) ((ej_tup (aj_cons (ej_var 3) (aj_cons (ej_op op_sub (ej_next 13 1 gN hr (ej_var 0)) ej_int (oj_exL fun y => oj_I0)) aj_nil))).to tupEx) rfl rfl (by show (l.map (wp W.K)).length < 100000; rw [List.length_map]; omega)) ?_
        refine sj_wkA (P' := AtW W.K q (CInv ol (i + 1))) 0 rfl (atw_snoc (v := fun y : {d : Int // 0 ≤ d ∧ d < 13} => y.1 - 6) fun y => ⟨?_, fun p hp hm => ?_⟩) (sj_end (sj_end (sj_turn trivial)))
        · rw [List.length_append]; show l.length + 1 ≤ i + 1; omega
        · obtain ⟨d, h2, h3⟩ := hl.2 p hp (old hp hm)
          exact ⟨d, List.mem_append_left _ h2, h3⟩
      · refine sj_wkA (P' := AtW W.K q (CInv ol (i + 1))) 0 rfl (fun F h ⟨⟨l, hl⟩, w⟩ => ⟨⟨l, Nat.le_succ_of_le hl.1, fun p hp hm => hl.2 p hp (old hp hm)⟩, w⟩) (sj_end (sj_end (sj_turn trivial)))
  · refine sj_opA 0 rfl fun ⟨l, hl⟩ => ?_
    refine sj_frzL 2 0 rfl rfl ?_
    have hl1 : l.length ≤ 4 := hl.1
    refine sj_ret () (ej_make l gC hr (aj_cons (ej_var 2) aj_nil) rfl (show l.length ≤ 1000 by omega)) rfl fun v F h => ⟨⟨l, hl1, fun p hp hm => hl.2 p hp hm⟩, h⟩
end
end K92
namespace K92
open PySem PySem.Spec PyProof.Rows L2 J
/-! ### the plain law -/
theorem cb_nonneg (w : Str) (l : Wl) : ∀ i, 0 ≤ cbAcc w l i
  | 0 => Int.le_refl _
  | i + 1 => by
    have := cb_nonneg w l i
    show 0 ≤ if (l.getD i d0).1 = w then max (cbAcc w l i) (l.getD i d0).2 else cbAcc w l i
    split <;> omega
theorem cbAcc_ge {w : Str} {l : Wl} : ∀ {i j : Nat}, j < i → (l.getD j d0).1 = w → (l.getD j d0).2 ≤ cbAcc w l i
  | i + 1, j, h, e => by
    show _ ≤ if (l.getD i d0).1 = w then max (cbAcc w l i) (l.getD i d0).2 else cbAcc w l i
    rcases Nat.lt_succ_iff_lt_or_eq.mp h with h1 | h1
    · have := cbAcc_ge h1 e
      split <;> omega
    · subst h1
      rw [if_pos e]; omega
theorem cb_ge {w : Str} {l : Wl} {c : Int} (h : (w, c) ∈ l) : c ≤ cb w l := by
  obtain ⟨j, hj, e⟩ := List.getElem_of_mem h
  have e2 : l.getD j d0 = (w, c) := by rw [List.getD_eq_getElem?_getD, List.getElem?_eq_getElem hj]; exact e
  have := cbAcc_ge (w := w) (l := l) (i := l.length) hj (by rw [e2])
  rw [e2] at this
  exact this
theorem nw_of {w : Str} {l : Wl} {c : Int} (h : (w, c) ∈ l) : nw w l = true := List.any_eq_true.mpr ⟨_, h, decide_eq_true rfl⟩
theorem mc_le {w : Str} {fl : List Wl} : ∀ i, mcAcc w fl i ≤ 15 ∧ ∀ j, j < i → mcAcc w fl i ≤ cb w (fl.getD j [])
  | 0 => ⟨Int.le_refl _, fun j h => absurd h (Nat.not_lt_zero _)⟩
  | i + 1 => by
    obtain ⟨h1, h2⟩ := mc_le (w := w) (fl := fl) i
    refine ⟨by show min _ _ ≤ _; omega, fun j h => ?_⟩
    show min (mcAcc w fl i) (cb w (fl.getD i [])) ≤ _
    rcases Nat.lt_succ_iff_lt_or_eq.mp h with h3 | h3
    · have := h2 j h3; omega
    · subst h3; omega
theorem mc_is {w : Str} {fl : List Wl} : ∀ i, mcAcc w fl i = 15 ∨ ∃ j, j < i ∧ mcAcc w fl i = cb w (fl.getD j [])
  | 0 => Or.inl rfl
  | i + 1 => by
    show min (mcAcc w fl i) (cb w (fl.getD i [])) = 15 ∨ ∃ j, j < i + 1 ∧ min (mcAcc w fl i) (cb w (fl.getD i [])) = _
    by_cases h : mcAcc w fl i ≤ cb w (fl.getD i [])
    · rw [Int.min_eq_left h]
      rcases mc_is (w := w) (fl := fl) i with h1 | ⟨j, hj, h1⟩
      · exact Or.inl h1
      · exact Or.inr ⟨j, by omega, h1⟩
    · rw [Int.min_eq_right (by omega)]
      exact Or.inr ⟨i, Nat.lt_succ_self _, rfl⟩
theorem fl_mem {fl : List Wl} {j : Nat} (h : j < fl.length) : fl.getD j [] ∈ fl := by
  rw [List.getD_eq_getElem?_getD, List.getElem?_eq_getElem h]; exact List.getElem_mem h
theorem least_mc (w : Str) (fl : List Wl) : leastOf (15 :: fl.map (cb w)) = mc fl w := by
  obtain ⟨h1, h2⟩ := mc_le (w := w) (fl := fl) fl.length
  refine leastOf_eq ?_ fun y hy => ?_
  · rcases mc_is (w := w) (fl := fl) fl.length with h | ⟨j, hj, h⟩
    · show mcAcc w fl fl.length ∈ _
      rw [h]; exact List.mem_cons_self
    · show mcAcc w fl fl.length ∈ _
      rw [h]; exact List.mem_cons_of_mem _ (List.mem_map.mpr ⟨_, fl_mem hj, rfl⟩)
  · rcases List.mem_cons.mp hy with e | hy
    · rw [e]; exact h1
    · obtain ⟨l, hl, e⟩ := List.mem_map.mp hy
      obtain ⟨j, hj, e2⟩ := List.getElem_of_mem hl
      have := h2 j hj
      rw [List.getD_eq_getElem?_getD, List.getElem?_eq_getElem hj] at this
      rw [← e, ← e2]; exact this
theorem cost_mono {l : Wl} {g1 g2 : Str → Int} (hw : ∀ p ∈ l, 0 ≤ p.2) (h : ∀ w, g1 w ≤ g2 w) : ∀ i, i ≤ l.length → costAcc l g2 i ≤ costAcc l g1 i
  | 0, _ => Int.le_refl _
  | i + 1, hi => by
    have ih := cost_mono hw h i (Nat.le_of_lt hi)
    have h0 := hw _ (wl_mem hi)
    have := Int.mul_le_mul_of_nonneg_left (h (l.getD i d0).1) h0
    show costAcc l g2 i - _ ≤ costAcc l g1 i - _
    omega
theorem cnt_cases (w : Str) : ∀ l : Wl, cntOf w l = 0 ∨ ∃ p ∈ l, p.1 = w ∧ cntOf w l = p.2
  | [] => Or.inl rfl
  | p :: r => by
    show (if p.1 = w then p.2 else cntOf w r) = 0 ∨ ∃ q ∈ p :: r, q.1 = w ∧ (if p.1 = w then p.2 else cntOf w r) = q.2
    by_cases h : p.1 = w
    · rw [if_pos h]; exact Or.inr ⟨p, List.mem_cons_self, h, rfl⟩
    · rw [if_neg h]
      rcases cnt_cases w r with h1 | ⟨q, h1, h2, h3⟩
      · exact Or.inl h1
      · exact Or.inr ⟨q, List.mem_cons_of_mem _ h1, h2, h3⟩
def abc : List Str := ["a", "b", "c"]
theorem name_in {ol : Wl} (h : WOk abc ol) {p : Str × Int} (hp : p ∈ ol) : p.1 ∈ abcd := by
  have h1 : p.1 ∈ abc := h.1.subset (List.mem_map.mpr ⟨p, hp, rfl⟩)
  have h2 : ∀ x ∈ abc, x ∈ abcd := by decide +kernel
  exact h2 _ h1
theorem cnt_le {ol l : Wl} (h : WOk abc ol) (hc : COk ol l) (w : Str) : cntOf w ol ≤ cb w l := by
  rcases cnt_cases w ol with e | ⟨p, hp, e1, e2⟩
  · rw [e]; exact cb_nonneg w l _
  · obtain ⟨c, h1, h2⟩ := hc.2 p hp (name_in h hp)
    rw [e1] at h1
    have := cb_ge h1
    rw [e2]; omega
theorem hold_ok {ol l : Wl} (h : WOk abc ol) (hc : COk ol l) : ∀ p ∈ ol, nw p.1 l = true ∧ p.2 ≤ cb p.1 l := fun p hp => by
  obtain ⟨c, h1, h2⟩ := hc.2 p hp (name_in h hp)
  have := cb_ge h1
  exact ⟨nw_of h1, by omega⟩
theorem told_le {ol asked : Wl} {fl : List Wl} (h : WOk abc ol) (hf : ∀ l ∈ fl, COk ol l) (hw : ∀ p ∈ asked, 0 ≤ p.2) : costAcc asked (mc fl) asked.length ≤ costAcc asked (fun w => min 15 (cntOf w ol)) asked.length := by
  refine cost_mono hw (fun w => ?_) _ (Nat.le_refl _)
  show min 15 (cntOf w ol) ≤ mcAcc w fl fl.length
  rcases mc_is (w := w) (fl := fl) fl.length with e | ⟨j, hj, e⟩
  · rw [e]; omega
  · rw [e]
    have := cnt_le h (hf _ (fl_mem hj)) w
    omega
theorem nodup_abc : abc.Nodup := by decide +kernel
theorem nodup_abcd : abcd.Nodup := by decide +kernel
theorem wok_nd {ns : List Str} {l : Wl} (h : WOk ns l) (nd : ns.Nodup) : (l.map (·.1)).Nodup := nd.sublist h.1
theorem wok_len {ns : List Str} {l : Wl} (h : WOk ns l) : l.length ≤ ns.length := by
  have := h.1.length_le
  rwa [List.length_map] at this
/-- what is asked for: the words told, each with its weight -/
def askOf (l : Wl) (g : Nat → {d : Int // 0 ≤ d ∧ d < 4}) : Wl := (List.range l.length).map fun i => ((l.getD i d0).1, (g i).1)
theorem ask_names {l : Wl} {g : Nat → {d : Int // 0 ≤ d ∧ d < 4}} : (askOf l g).map (·.1) = l.map (·.1) := by
  unfold askOf
  rw [List.map_map]
  exact rangeMap (fun p : Str × Int => p.1) d0 l
theorem ask_ok {l : Wl} {g : Nat → {d : Int // 0 ≤ d ∧ d < 4}} (h : WOk abcd l) : WordsOk (askOf l g) := by
  refine ⟨fun p hp => ?_, ?_, ?_⟩
  · obtain ⟨i, _, e⟩ := List.mem_map.mp hp
    have := (g i).2
    rw [← e]; show 0 ≤ (g i).1 ∧ (g i).1 ≤ 1000; omega
  · rw [ask_names]; exact wok_nd h nodup_abcd
  · have := wok_len h
    have e : abcd.length = 4 := rfl
    rw [show (askOf l g).length = l.length by unfold askOf; simp]; omega
theorem vec_pv {z : SchD} {a b : List Int} (ha : VecOk z a) (hb : VecOk z b) : PV.ok ⟨a, b⟩ := by
  have lo : -1000 ≤ loOf z.width := by unfold loOf; split <;> decide
  have hi : hiOf z.width ≤ 1000 := by unfold hiOf; split <;> decide
  refine ⟨ha.1.trans hb.1.symm, fun x hx => ?_, fun x hx => ?_⟩
  · have := ha.2 x hx; omega
  · have := hb.2 x hx; omega
end K92
set_option maxHeartbeats 0
namespace K92
open PySem PySem.Spec PyProof.Rows L2 J
abbrev nLaw : List Str := ["_law_script", "_law_state", "_law_schema_here", "_law_turn", "_law_own", "_law_record", "_law_asked", "_law_word", "_law_count", "_law_question", "_law_facts", "_law_k", "_law_fact", "_law_due", "_law_weight", "_law_bounds", "_law_told"]
theorem sc82 : FnScope nLaw ["_law_script"] (defScope (top 82)) := ⟨rfl, rfl, rfl, by decide +kernel, rfl, by decide +kernel, by decide +kernel⟩
structure Gs (W : Wd) : Prop where
  nx : GNx W
  ls : GF W 5 "_law_schema" (spJ (sLs W.K))
  vec : GF W 3 "_law_vector" (spJ (sVec W.K))
  words : GF W 3 "_law_words" (spJ (sWords W.K))
  counts : GF W 3 "_law_counts" (spJ (sCounts W.K))
  lb : GF W 1 "_law_bound" (spJ (sLb W.K))
  rec_ : ∃ a, (∀ H, SqT W.K H a []) ∧ GCK W 1 "Record" (He.ga W.K "Record") (spJ ((iRec W.K).fs (He.ga W.K "Record"))) 2 ["words"] (fun vs zs => vs ++ (.ref a :: zs))
  qry : GCK W 1 "Query" (He.ga W.K "Query") (spJ ((iQry W.K).fs (He.ga W.K "Query"))) 1 ["near", "words"] (fun vs zs => vs ++ (zs ++ [.str ev, .int 1]))
  qn : GC W 8 "Question" (He.ga W.K "Question") (spJ ((iQn W.K).fs (He.ga W.K "Question")))
  holds : GM W 2 (He.ga W.K "Counts") "holds" (spJ (sHolds W.K))
  cost : GM W 3 (He.ga W.K "Question") "cost" (spJ (sCost W.K))
  bo : GF W 4 "bound_of" (spJ (sBo W.K))
def sLaw (K : PySem.W.Frag) : FS (List Int) Unit where
  args := fun s => [IsLst K (s.map IsInt)]
  res := fun _ _ => IsBool true
abbrev G3 (K : PySem.W.Frag) (s : List Int) (st : Addr) (z : SchD) : Gam := [some (IsLst K (s.map IsInt)), some (IsAddr st), some (IsSch K z), none, none, none, none, none, none, none, none, none, none, none, none, none, none]
section
variable {W : Wd} {f : Addr} {fd : FuncData}
theorem ok_law (fx : Fx W) (Fn : FnD0 W "law" (top 82) f fd) (g : Gs W) : FnK W 10 f fd ["_law_script"] (spJ (sLaw W.K)) := by
  refine fn_ok (sLaw W.K) Fn sc82 (fun _ => rfl) fun r hr s F0 Fr hp => ?_
  refine sj_setX 1 (ex_lst (aj_cons (ej_listL fx.list (aj_cons (ej_var 0) aj_nil)) (aj_cons ej_int (aj_cons ej_int aj_nil)))) (fun st => ?_) sc82.nd
  refine sj_wkA (P' := AtSt W.K st) 0 rfl (fun F h w => ⟨(s, ⟨0, 0⟩), w⟩) ?_
  refine sj_setE 2 (ej_callAt st 0 g.ls hr (aj_cons (ej_var 1) aj_nil)) (fun ⟨z, hz⟩ => ?_) sc82.nd
  refine sj_for [3] (fun _ => True) (fun _ => G3 W.K s st z) _ (fun _ => [AtSt W.K st]) (ij_range1 (n := 4) fx.range (aj_cons ej_int aj_nil) rfl (by decide)) trivial (fun i hi _ => gj_name 3 (by decide) sc82.nd) (fun F1 x1 i hi hP => ?_) (fun hP => sj_drop (sj_ret () ej_bl rfl fun _ _ h => h))
  refine sj_setE 4 (ej_callAt (st, abc) 0 g.words hr (aj_cons (ej_var 1) (aj_cons (ej_lst (aj_cons ej_str (aj_cons ej_str (aj_cons ej_str aj_nil)))) aj_nil)) rfl (show 3 ≤ 1000 by decide)) (fun ⟨ol, hol⟩ => ?_) sc82.nd
  have hol : WOk abc ol := hol
  have oll : ol.length ≤ 3 := wok_len hol
  obtain ⟨ad, had, gRec⟩ := g.rec_
  refine sj_setE 5 (ej_makeKE (fun v : VW => VecOk z v.vec ∧ v.words = ol) gRec hr (aj_cons ej_str (aj_cons (ej_callAt (st, z) 0 g.vec hr (aj_cons (ej_var 1) (aj_cons (ej_var 2) aj_nil)) rfl hz) aj_nil)) (kj_cons (ej_var 4) kj_nil) (fun q vs zs F h1 h2 => ?_)) (fun ⟨rc, hrc⟩ => ?_) sc82.nd
  · obtain ⟨v1, v2, rfl, h3, ⟨v, hv⟩, h4⟩ := all2 h1
    obtain ⟨z1, rfl, h5⟩ := all1 h2
    have hz3 : z.size ≤ 3 := hz.2.1
    have hvl : v.length = z.size := hv.1
    exact ⟨⟨v, ol⟩, ⟨hv, rfl⟩, ⟨by show v.length ≤ 1000; omega, by show ol.length ≤ 1000; omega⟩, rfl, h3, h4, ⟨ad, [], rfl, had F, trivial⟩, h5, trivial⟩
  obtain ⟨hrv, hrw⟩ := hrc
  refine sj_setLcX 6 [("_law_word", 7), ("_law_count", 8)] (fun _ _ => true) (fun (y : {l : Wl // WOk abcd l}) i => IsEx fun d : {d : Int // 0 ≤ d ∧ d < 4} => IsTup W.K [IsStr (y.1.getD i d0).1, IsInt d.1]) _ (fun _ _ => [AtSt W.K st]) sc82.nd (blkOk_by rfl)
    (ix_lstE (wp W.K) d0 (fun y : {l : Wl // WOk abcd l} => y.1) (ej_callAt (st, abcd) 0 g.words hr (aj_cons (ej_var 1) (aj_cons (ej_lst (aj_cons ej_str (aj_cons ej_str (aj_cons ej_str (aj_cons ej_str aj_nil))))) aj_nil)) rfl (show 4 ≤ 1000 by decide))) (fun _ => rfl)
    (fun y b i hi => gj_tup (gjs_cons (gj_name 7 (by decide) sc82.nd) (gjs_cons (gj_name 8 (by decide) sc82.nd) gjs_nil))) (fun y b i hi => tsj_nil) (fun y b i hi _ => EJ.to (ej_tup (aj_cons (ej_var 7) (aj_cons (ej_next 4 0 g.nx hr (ej_var 1)) aj_nil))) tupEx) (fun _ _ _ h => Bool.noConfusion h) (fun y => by
      have := wok_len y.2
      have e : abcd.length = 4 := rfl
      omega) (fun ⟨wl, hwl⟩ q => ?_)
  refine sj_frzL 6 0 rfl rfl ?_
  refine sj_exF 6 wl.length (R := fun i (d : {d : Int // 0 ≤ d ∧ d < 4}) => IsTup W.K [IsStr (wl.getD i d0).1, IsInt d.1]) ⟨0, by decide⟩ rfl (accOf_all _) fun gg => ?_
  refine sj_eq (R' := IsWL W.K (askOf wl gg)) 6 rfl (congrArg (IsLst W.K) (by unfold askOf; rw [List.map_map]; rfl)) ?_
  have hask := ask_ok (g := gg) hwl
  generalize askOf wl gg = asked at hask ⊢
  refine sj_setE 9 (ej_makeE (fun x : SchD × VW => x.1 = z ∧ VecOk z x.2.vec ∧ x.2.words = asked) g.qn hr (aj_cons (ej_var 2) (aj_cons (ej_makeKE (fun v : VW => VecOk z v.vec ∧ v.words = asked) g.qry hr (aj_cons (ej_callAt (st, z) 0 g.vec hr (aj_cons (ej_var 1) (aj_cons (ej_var 2) aj_nil)) rfl hz) aj_nil) (kj_cons ej_int (kj_cons (ej_var 6) kj_nil)) (fun q vs zs F h1 h2 => ?_)) aj_nil)) (fun vs F h => ?_)) (fun ⟨⟨z', v⟩, e1, hv, hvw⟩ => ?_) sc82.nd
  · obtain ⟨v1, rfl, ⟨v, hv⟩, h4⟩ := all1 h1
    obtain ⟨z1, z2, rfl, h5, h6⟩ := all2 h2
    have hz3 : z.size ≤ 3 := hz.2.1
    have hvl : v.length = z.size := hv.1
    exact ⟨⟨v, asked⟩, ⟨hv, rfl⟩, ⟨by show v.length ≤ 1000; omega, hask.2.2⟩, rfl, h4, h5, h6, rfl, rfl, trivial⟩
  · obtain ⟨v1, v2, rfl, h1, ⟨v, hv, hvw⟩, h2⟩ := all2 h
    refine ⟨(z, v), ⟨rfl, hv, hvw⟩, ⟨hz, hv, ?_⟩, h1, h2, trivial⟩
    show WordsOk v.words
    rw [hvw]; exact hask
  have e1 : z' = z := e1
  subst e1
  have hvw : v.words = asked := hvw
  have hcp : (sCounts W.K).pre (st, ol) := ⟨show ol.length ≤ 1000 by omega, wok_nd hol nodup_abc⟩
  refine sj_setLcX 10 [("_law_k", 11)] (fun _ _ => true) (fun (y : {d : Int // 0 ≤ d ∧ d < 2}) i => IsEx fun l : {l : Wl // COk ol l} => IsCnt W.K l.1) _ (fun _ _ => [AtSt W.K st]) sc82.nd (blkOk_by rfl)
    (ix_range1 (n := fun y : {d : Int // 0 ≤ d ∧ d < 2} => (1 + y.1).toNat) fx.range (aj_cons ((ej_op op_add ej_int (ej_next 2 0 g.nx hr (ej_var 1)) (oj_exR fun y => oj_I0)).to (fun v F ⟨y, h⟩ => ⟨y, by
      have := y.2
      have e : (((1 + y.1).toNat : Nat) : Int) = 1 + y.1 := by omega
      show (IsInt (((1 + y.1).toNat : Nat) : Int)).p v F
      rw [e]; exact h⟩)) aj_nil) (fun y => by have := y.2; omega)) (fun _ => rfl)
    (fun y b i hi => gj_name 11 (by decide) sc82.nd) (fun y b i hi => tsj_nil) (fun y b i hi _ => ej_callAt (S := sCounts W.K) (P := AtSt W.K st) (P' := AtSt W.K st) (L1 := [AtSt W.K st]) (st, ol) 0 g.counts hr (aj_cons (ej_var 1) (aj_cons (ej_var 4) aj_nil)) rfl hcp) (fun _ _ _ h => Bool.noConfusion h) (fun y => by have := y.2; omega) (fun y q => ?_)
  refine sj_frzL 10 0 rfl rfl ?_
  generalize hnf : (1 + y.1).toNat = nf
  have hnf2 : nf ≤ 2 := by have := y.2; omega
  refine sj_exF 10 nf (R := fun _ (l : {l : Wl // COk ol l}) => IsCnt W.K l.1) ⟨ol, by omega, fun p hp hm => ⟨p.2, hp, Int.le_refl _⟩⟩ rfl (accOf_all _) fun gf => ?_
  refine sj_eq (R' := IsFacts W.K ((List.range nf).map fun i => (gf i).1)) 10 rfl (congrArg (IsLst W.K) (by rw [List.map_map]; rfl)) ?_
  have hfl : ∀ l ∈ (List.range nf).map fun i => (gf i).1, COk ol l := fun l hl => by
    obtain ⟨i, _, rfl⟩ := List.mem_map.mp hl
    exact (gf i).2
  have hfn : ((List.range nf).map fun i => (gf i).1).length ≤ 2 := by simpa using hnf2
  generalize ((List.range nf).map fun i => (gf i).1) = fl at hfl hfn ⊢
  have hrc2 : (⟨rc.vec, ol⟩ : VW) = rc := by
    cases rc; cases hrw; rfl
  have hvv : (⟨v.vec, asked⟩ : VW) = v := by
    cases v; cases hvw; rfl
  refine sj_eq (R' := IsRec W.K rc) 5 rfl rfl ?_
  refine sj_eq (R' := IsQn W.K z' v) 9 rfl rfl ?_
  have hhp : ∀ j, j < fl.length → (sHolds W.K).pre (fl.getD j [], rc) := fun j hj => by
    show ∀ p ∈ rc.words, _
    rw [hrw]
    exact hold_ok hol (hfl _ (fl_mem hj))
  refine sj_for [12] (fun _ => True) (fun _ => [some (IsLst W.K (s.map IsInt)), some (IsAddr st), some (IsSch W.K z'), none, some (IsWL W.K ol), some (IsRec W.K rc), some (IsWL W.K asked), none, none, some (IsQn W.K z' v), some (IsFacts W.K fl), none, none, none, none, none, none]) _ (fun _ => [AtSt W.K st]) (ij_lstM (IsCnt W.K) [] fl (ej_var 10)) trivial
    (fun j hj _ => gj_name 12 (by decide) sc82.nd) (fun F2 x2 j hj _ => ?_) (fun _ => ?_)
  · refine sj_ifF ((tj_cmp op_notBl (ej_meth (fl.getD j [], rc) g.holds hr (ej_var 12) (recv_ins (by decide)) (aj_cons (ej_var 5) aj_nil) rfl (hhp j hj)) ej_bl oj_notB (nomark _)).eq rfl) (sj_end (sj_turn trivial))
  refine sj_set 13 ej_int ?_ sc82.nd
  refine sj_for [7, 14] (fun _ => True) (fun j => [some (IsLst W.K (s.map IsInt)), some (IsAddr st), some (IsSch W.K z'), none, some (IsWL W.K ol), some (IsRec W.K rc), some (IsWL W.K asked), none, none, some (IsQn W.K z' v), some (IsFacts W.K fl), none, none, some (IsInt (costAcc asked (mc fl) j)), none, none, none]) _ (fun _ => [AtSt W.K st]) (ij_lstM (wp W.K) d0 asked (ej_var 6)) trivial
    (fun j hj _ => gj_tup (gjs_cons (gj_name 7 (by decide) sc82.nd) (gjs_cons (gj_name 14 (by decide) sc82.nd) gjs_nil))) (fun F2 x2 j hj _ => ?_) (fun _ => ?_)
  · generalize hwd : (asked.getD j d0).1 = wd
    refine sj_set 15 (ej_cat (As := [IsInt 15]) (L2' := [AtSt W.K st]) (ex_lst (aj_cons ej_int aj_nil)) (fun q2 => ex_lc [("_law_fact", 12)] (fun _ => true) (fun i2 => IsInt (cb wd (fl.getD i2 []))) _ (fun _ => [AtL q2 [IsInt 15], AtSt W.K st]) sc82.nd (blkOk_by rfl) (ij_lstM (IsCnt W.K) [] fl (ej_var 10)) rfl
      (fun b i2 hi2 => gj_name 12 (by decide) sc82.nd) (fun b i2 hi2 => tsj_nil) (fun b i2 hi2 _ => ej_call (S := sLb W.K) (Lf := [AtL q2 [IsInt 15], AtSt W.K st]) (fl.getD i2 [], wd) g.lb hr (aj_cons (ej_fld 0 (ej_var 12) fx.cCnt) (aj_cons (ej_var 7) aj_nil)) (by rw [← hwd]; rfl)) (fun _ _ h => Bool.noConfusion h) (by omega)) (by have := accOf_len (t := fun _ => true) (R := fun i2 => IsInt (cb wd (fl.getD i2 []))) fl.length; show 1 + _ ≤ 100000; omega)) ?_ sc82.nd
    refine sj_eq (R' := IsLst W.K ((15 :: fl.map (cb wd)).map IsInt)) 15 rfl (congrArg (IsLst W.K) (by
      rw [accOf_all, rangeMap (fun l => IsInt (cb wd l)) [] fl, List.map_cons, List.map_map]; rfl)) ?_
    have hb := hask.1 _ (wl_mem hj)
    refine sj_set 13 (ej_sub (ej_var 13) (ej_mul (ej_var 14) ((ej_minL fx.min (aj_cons (ej_var 15) aj_nil) (by simp)).eq (congrArg IsInt (least_mc wd fl))) (Or.inl ⟨by omega, by omega⟩))) ?_ sc82.nd
    refine sj_eq 13 rfl (congrArg IsInt (show costAcc asked (mc fl) j - (asked.getD j d0).2 * mc fl wd = costAcc asked (mc fl) (j + 1) by rw [← hwd]; rfl)) (sj_turn trivial)
  have hvw2 : WordsOk v.words := by rw [hvw]; exact hask
  refine sj_set 16 (ej_fld 0 (R := IsInt (costAcc asked (mc fl) asked.length)) (ej_call (⟨z', v, fl⟩ : QF) g.bo hr (aj_cons (ej_var 9) (aj_cons (ej_var 10) aj_nil)) rfl hvw2) fx.cBnd rfl (by rw [← hvw]; rfl)) ?_ sc82.nd
  have hqc : (sCost W.K).pre (⟨z', v, rc⟩ : QR) := ⟨vec_pv hv hrv, hvw2⟩
  have hcost : costAcc asked (mc fl) asked.length ≤ costAcc asked (fun w => min 15 (cntOf w ol)) asked.length := told_le hol hfl fun p hp => (hask.1 p hp).1
  refine sj_ifF ((tj_b (bj_or (tj_isN0 (ej_var 16) (nn_v (v := .int (costAcc asked (mc fl) asked.length)))) fun _ => bj_or (tj_neI (ej_var 16) (ej_var 13)) fun _ => bj_or1 (tj_gt (ej_var 16) ((ej_meth (⟨z', v, rc⟩ : QR) g.cost hr (ej_var 9) (recv_ins (by decide)) (aj_cons (ej_var 5) aj_nil) rfl hqc).eq (Ra := IsInt (costAcc asked (fun w => min 15 (cntOf w ol)) asked.length)) (by rw [← hvw, ← hrw]; rfl))))).eq (by
    rw [decide_eq_false (show ¬ costAcc asked (fun w => min 15 (cntOf w ol)) asked.length < costAcc asked (mc fl) asked.length by omega), decide_eq_true rfl]; rfl)) (sj_end ?_)
  exact sj_turn trivial
end
end K92
set_option maxHeartbeats 0
namespace K92
open PySem PySem.Spec PyProof.Rows L2 J JH
/-! ### the head's facts -/
def dd0 : He.DefD := ⟨("inner", none), "inner", "inner", defArgs (top 26), defBody (top 26), defScope (top 26), [], []⟩
def dd1 : He.DefD := ⟨("distance", none), "distance", "distance", defArgs (top 27), defBody (top 27), defScope (top 27), [], []⟩
def dd2 : He.DefD := ⟨("differing", none), "differing", "differing", defArgs (top 28), defBody (top 28), defScope (top 28), [], []⟩
def dd3 : He.DefD := ⟨("is_letter", none), "is_letter", "is_letter", defArgs (top 34), defBody (top 34), defScope (top 34), [], []⟩
def dd4 : He.DefD := ⟨("is_digit", none), "is_digit", "is_digit", defArgs (top 35), defBody (top 35), defScope (top 35), [], []⟩
def dd5 : He.DefD := ⟨("is_field_name", none), "is_field_name", "is_field_name", defArgs (top 36), defBody (top 36), defScope (top 36), [], []⟩
def dd6 : He.DefD := ⟨("end_of_word", none), "end_of_word", "end_of_word", defArgs (top 43), defBody (top 43), defScope (top 43), [], []⟩
def dd7 : He.DefD := ⟨("read_token", none), "read_token", "read_token", defArgs (top 48), defBody (top 48), defScope (top 48), [], []⟩
def dd8 : He.DefD := ⟨("read_tokens", none), "read_tokens", "read_tokens", defArgs (top 49), defBody (top 49), defScope (top 49), [], []⟩
def dd9 : He.DefD := ⟨("read_filter", none), "read_filter", "read_filter", defArgs (top 54), defBody (top 54), defScope (top 54), [], []⟩
def dd10 : He.DefD := ⟨("check_query", none), "check_query", "check_query", defArgs (top 57), defBody (top 57), defScope (top 57), [], []⟩
def dd11 : He.DefD := ⟨("can_pass", none), "can_pass", "can_pass", defArgs (top 62), defBody (top 62), defScope (top 62), [], []⟩
def dd12 : He.DefD := ⟨("most_count", none), "most_count", "most_count", defArgs (top 64), defBody (top 64), defScope (top 64), [], []⟩
def dd13 : He.DefD := ⟨("least_cost", none), "least_cost", "least_cost", defArgs (top 65), defBody (top 65), defScope (top 65), [], []⟩
def dd14 : He.DefD := ⟨("least_name", none), "least_name", "least_name", defArgs (top 66), defBody (top 66), defScope (top 66), [], []⟩
def dd15 : He.DefD := ⟨("bound_of", none), "bound_of", "bound_of", defArgs (top 67), defBody (top 67), defScope (top 67), [], []⟩
def dd16 : He.DefD := ⟨("_law_row", none), "_law_row", "_law_row", defArgs (top 75), defBody (top 75), defScope (top 75), [], []⟩
def dd17 : He.DefD := ⟨("_law_next", none), "_law_next", "_law_next", defArgs (top 76), defBody (top 76), defScope (top 76), [], []⟩
def dd18 : He.DefD := ⟨("_law_schema", none), "_law_schema", "_law_schema", defArgs (top 77), defBody (top 77), defScope (top 77), [], []⟩
def dd19 : He.DefD := ⟨("_law_vector", none), "_law_vector", "_law_vector", defArgs (top 78), defBody (top 78), defScope (top 78), [], []⟩
def dd20 : He.DefD := ⟨("_law_words", none), "_law_words", "_law_words", defArgs (top 79), defBody (top 79), defScope (top 79), [], []⟩
def dd21 : He.DefD := ⟨("_law_counts", none), "_law_counts", "_law_counts", defArgs (top 80), defBody (top 80), defScope (top 80), [], []⟩
def dd22 : He.DefD := ⟨("_law_bound", none), "_law_bound", "_law_bound", defArgs (top 81), defBody (top 81), defScope (top 81), [], []⟩
def dd23 : He.DefD := ⟨("law", none), "law", "law", defArgs (top 82), defBody (top 82), defScope (top 82), [], []⟩
def dd24 : He.DefD := ⟨("Record", some "__init__"), "__init__", "Record.__init__", defArgs (inClass (top 11) 0), defBody (inClass (top 11) 0), defScope (inClass (top 11) 0), [], [("fields", .adr (kwdAt ("Record", some "__init__") "fields")), ("words", .adr (kwdAt ("Record", some "__init__") "words"))]⟩
def dd25 : He.DefD := ⟨("Record", some "count_of"), "count_of", "Record.count_of", defArgs (inClass (top 11) 2), defBody (inClass (top 11) 2), defScope (inClass (top 11) 2), [], []⟩
def dd26 : He.DefD := ⟨("Schema", some "__init__"), "__init__", "Schema.__init__", defArgs (inClass (top 39) 0), defBody (inClass (top 39) 0), defScope (inClass (top 39) 0), [], [("width", .str "small"), ("measure", .str "square"), ("fields", .adr (kwdAt ("Schema", some "__init__") "fields"))]⟩
def dd27 : He.DefD := ⟨("Schema", some "far"), "far", "Schema.far", defArgs (inClass (top 39) 4), defBody (inClass (top 39) 4), defScope (inClass (top 39) 4), [], []⟩
def dd28 : He.DefD := ⟨("Schema", some "has_vector"), "has_vector", "Schema.has_vector", defArgs (inClass (top 39) 5), defBody (inClass (top 39) 5), defScope (inClass (top 39) 5), [], []⟩
def dd29 : He.DefD := ⟨("Token", some "__init__"), "__init__", "Token.__init__", defArgs (inClass (top 42) 0), defBody (inClass (top 42) 0), defScope (inClass (top 42) 0), [], []⟩
def dd30 : He.DefD := ⟨("Reader", some "__init__"), "__init__", "Reader.__init__", defArgs (inClass (top 53) 0), defBody (inClass (top 53) 0), defScope (inClass (top 53) 0), [], []⟩
def dd31 : He.DefD := ⟨("Reader", some "sees"), "sees", "Reader.sees", defArgs (inClass (top 53) 3), defBody (inClass (top 53) 3), defScope (inClass (top 53) 3), [], []⟩
def dd32 : He.DefD := ⟨("Reader", some "word"), "word", "Reader.word", defArgs (inClass (top 53) 4), defBody (inClass (top 53) 4), defScope (inClass (top 53) 4), [], []⟩
def dd33 : He.DefD := ⟨("Reader", some "skip"), "skip", "Reader.skip", defArgs (inClass (top 53) 5), defBody (inClass (top 53) 5), defScope (inClass (top 53) 5), [], []⟩
def dd34 : He.DefD := ⟨("Reader", some "whole"), "whole", "Reader.whole", defArgs (inClass (top 53) 7), defBody (inClass (top 53) 7), defScope (inClass (top 53) 7), [], []⟩
def dd35 : He.DefD := ⟨("Reader", some "conditions"), "conditions", "Reader.conditions", defArgs (inClass (top 53) 8), defBody (inClass (top 53) 8), defScope (inClass (top 53) 8), [], []⟩
def dd36 : He.DefD := ⟨("Reader", some "condition"), "condition", "Reader.condition", defArgs (inClass (top 53) 9), defBody (inClass (top 53) 9), defScope (inClass (top 53) 9), [], []⟩
def dd37 : He.DefD := ⟨("Question", some "__init__"), "__init__", "Question.__init__", defArgs (inClass (top 58) 0), defBody (inClass (top 58) 0), defScope (inClass (top 58) 0), [], []⟩
def dd38 : He.DefD := ⟨("Question", some "cost"), "cost", "Question.cost", defArgs (inClass (top 58) 2), defBody (inClass (top 58) 2), defScope (inClass (top 58) 2), [], []⟩
def dd39 : He.DefD := ⟨("Bound", some "__init__"), "__init__", "Bound.__init__", defArgs (inClass (top 60) 0), defBody (inClass (top 60) 0), defScope (inClass (top 60) 0), [], []⟩
def dd40 : He.DefD := ⟨("Query", some "__init__"), "__init__", "Query.__init__", defArgs (inClass (top 69) 0), defBody (inClass (top 69) 0), defScope (inClass (top 69) 0), [], [("near", .int 1), ("words", .adr (kwdAt ("Query", some "__init__") "words")), ("text", .str "every"), ("most", .int 1)]⟩
def dd41 : He.DefD := ⟨("Counts", some "__init__"), "__init__", "Counts.__init__", defArgs (inClass (top 73) 0), defBody (inClass (top 73) 0), defScope (inClass (top 73) 0), [], []⟩
def dd42 : He.DefD := ⟨("Counts", some "count_bound"), "count_bound", "Counts.count_bound", defArgs (inClass (top 73) 1), defBody (inClass (top 73) 1), defScope (inClass (top 73) 1), [], []⟩
def dd43 : He.DefD := ⟨("Counts", some "names_word"), "names_word", "Counts.names_word", defArgs (inClass (top 73) 2), defBody (inClass (top 73) 2), defScope (inClass (top 73) 2), [], []⟩
def dd44 : He.DefD := ⟨("Counts", some "holds"), "holds", "Counts.holds", defArgs (inClass (top 73) 3), defBody (inClass (top 73) 3), defScope (inClass (top 73) 3), [], []⟩
def dd45 : He.DefD := ⟨("Counts", some "name_bound"), "name_bound", "Fact.name_bound", defArgs (inClass (top 71) 5), defBody (inClass (top 71) 5), defScope (inClass (top 71) 5), [], []⟩
def p0 : PgD := ⟨getP "Schema" "least", "least", "Schema.least", defArgs (inClass (top 39) 1), defBody (inClass (top 39) 1), defScope (inClass (top 39) 1)⟩
def p1 : PgD := ⟨getP "Schema" "greatest", "greatest", "Schema.greatest", defArgs (inClass (top 39) 2), defBody (inClass (top 39) 2), defScope (inClass (top 39) 2)⟩
def fnL : List He.DefD := [dd0, dd1, dd2, dd3, dd4, dd5, dd6, dd7, dd8, dd9, dd10, dd11, dd12, dd13, dd14, dd15, dd16, dd17, dd18, dd19, dd20, dd21, dd22, dd23, dd24, dd25, dd26, dd27, dd28, dd29, dd30, dd31, dd32, dd33, dd34, dd35, dd36, dd37, dd38, dd39, dd40, dd41, dd42, dd43, dd44, dd45]
def pgL : List PgD := [p0, p1]
def tRanges : He.Tab := (fun K => He.ga K "RANGES", ["bit", "small", "wide"])
def tsL : List He.Tab := [tRanges]
def faL : List He.Fa := [.free "len",
  .free "int",
  .free "min",
  .free "max",
  .free "tuple",
  .free "list",
  .free "zip",
  .free "range",
  .free "isinstance",
  .int "MOST_COUNT" 15,
  .glo "RANGES",
  .glo "MEASURES",
  .glo "KINDS",
  .glo "WORDS",
  .noat "Record" "name",
  .noat "Record" "vector",
  .noat "Record" "fields",
  .noat "Record" "words",
  .cls "Record",
  .noat "Schema" "size",
  .noat "Schema" "width",
  .noat "Schema" "measure",
  .noat "Schema" "fields",
  .cls "Schema",
  .noat "Token" "kind",
  .noat "Token" "value",
  .noat "Token" "place",
  .cls "Token",
  .noat "Reader" "schema",
  .noat "Reader" "stop",
  .noat "Reader" "tokens",
  .noat "Reader" "at",
  .noat "Reader" "depth",
  .cls "Reader",
  .noat "Question" "schema",
  .noat "Question" "query",
  .noat "Question" "condition",
  .cls "Question",
  .noat "Bound" "cost",
  .noat "Bound" "name",
  .noat "Bound" "can",
  .cls "Bound",
  .noat "Query" "vector",
  .noat "Query" "near",
  .noat "Query" "words",
  .noat "Query" "text",
  .noat "Query" "most",
  .cls "Query",
  .noat "Counts" "words",
  .cls "Counts",
  .glo "_law_row",
  .glo "_law_next",
  .glo "inner",
  .glo "distance",
  .glo "differing",
  .glo "is_letter",
  .glo "is_field_name",
  .meth "Schema" "far",
  .meth "Schema" "has_vector",
  .mkr "Token",
  .glo "Token",
  .glo "end_of_word",
  .glo "read_token",
  .glo "read_tokens",
  .mkr "Reader",
  .glo "Reader",
  .meth "Reader" "sees",
  .meth "Reader" "word",
  .meth "Reader" "skip",
  .glo "Every",
  .meth "Reader" "condition",
  .meth "Reader" "conditions",
  .meth "Reader" "whole",
  .glo "read_filter",
  .glo "check_query",
  .mkr "Question",
  .glo "Question",
  .meth "Record" "count_of",
  .meth "Question" "cost",
  .mkr "Counts",
  .glo "Counts",
  .meth "Counts" "count_bound",
  .meth "Counts" "names_word",
  .meth "Counts" "holds",
  .meth "Counts" "name_bound",
  .mkr "Bound",
  .glo "Bound",
  .glo "most_count",
  .glo "least_cost",
  .glo "least_name",
  .cls "Every",
  .glo "can_pass",
  .glo "bound_of",
  .glo "_law_bound",
  .mkr "Schema",
  .glo "Schema",
  .mkr "Record",
  .glo "Record",
  .mkr "Query",
  .glo "Query",
  .glo "_law_schema",
  .glo "_law_vector",
  .glo "_law_words",
  .glo "_law_counts",
  .glo "law"]
def exB (K : PySem.W.Frag) : Bool := dicB K "RANGES" "bit" && (tupA K (dicAt "RANGES" "bit" K) [.int 0, .int 1] && (dicB K "RANGES" "small" && (tupA K (dicAt "RANGES" "small" K) [.int (-128), .int 127] && (tupA K (He.ga K "MEASURES") [.str "square", .str "dot", .str "bits"] &&
  (tupA K (He.ga K "KINDS") [.str "integer", .str "text", .str "flag"] && (tupA K (He.ga K "WORDS") [.str "every", .str "has", .str "in", .str "and", .str "or", .str "not", .str "true", .str "false"] && (mk0B K (cEv K) && (ityB K (cEv K) && (kitB K (cEv K) (cEv K) true &&
  (tupA K (kwdAt ("Record", some "__init__") "fields" K) [] && (propB K "Schema" "least" && propB K "Schema" "greatest")))))))))))
theorem facts {P : Program} {w : World} {K : PySem.W.Frag} {h : Heap} {mg : Str → Option Value} {f0 : Addr} (KX : K.In h) (Gn : h.Ns mainGlobals mg) (hf0 : mg ("law" : Str) = some (.ref f0)) (c : SaysJ faL fnL pgL tsL exB w K) :
    ∃ fd : FuncData, (∀ (s : Shared) (v : Value), BindsTo s fd ⟨[v], []⟩ [("_law_script", v)]) ∧ ∀ base : Heap, FnK ⟨P, w, K, mg, base⟩ 10 f0 fd ["_law_script"] (spJ (sLaw K)) := by
  obtain ⟨fdL, FnL⟩ := c.t.d.def_ 23 (d := dd23) rfl
  have bL := FunD.bindsA (ps := ["_law_script"]) FnL fun _ _ _ _ _ _ us hl => match us, hl with | [_], _ => rfl
  refine ⟨fdL, fun s v => bL s [v] rfl, fun base => ?_⟩
  have e0 := hf0.symm.trans (He.glo_ok KX Gn (c.t.d.fact 104 (f := .glo "law") rfl))
  cases e0
  obtain ⟨W, hW⟩ : ∃ W : Wd, W = ⟨P, w, K, mg, base⟩ := ⟨_, rfl⟩
  have d := c.t.d
  obtain ⟨e1, m⟩ := He.ba c.more
  obtain ⟨e2, m⟩ := He.ba m
  obtain ⟨e3, m⟩ := He.ba m
  obtain ⟨e4, m⟩ := He.ba m
  obtain ⟨e5, m⟩ := He.ba m
  obtain ⟨e6, m⟩ := He.ba m
  obtain ⟨e7, m⟩ := He.ba m
  obtain ⟨e8, m⟩ := He.ba m
  obtain ⟨e9, m⟩ := He.ba m
  obtain ⟨e10, m⟩ := He.ba m
  obtain ⟨e11, m⟩ := He.ba m
  obtain ⟨ep0, ep1⟩ := He.ba m
  obtain rfl : K = W.K := by rw [hW]
  obtain rfl : mg = W.mg := by rw [hW]
  obtain rfl : w = W.w := by rw [hW]
  rw [← hW]

  have fx : Fx W := by
    refine ⟨He.free_ok KX Gn (d.fact 0 (f := .free "len") rfl), He.free_ok KX Gn (d.fact 1 (f := .free "int") rfl), He.free_ok KX Gn (d.fact 2 (f := .free "min") rfl), He.free_ok KX Gn (d.fact 3 (f := .free "max") rfl), He.free_ok KX Gn (d.fact 4 (f := .free "tuple") rfl), He.free_ok KX Gn (d.fact 5 (f := .free "list") rfl), He.free_ok KX Gn (d.fact 6 (f := .free "zip") rfl), He.free_ok KX Gn (d.fact 7 (f := .free "range") rfl), He.free_ok KX Gn (d.fact 8 (f := .free "isinstance") rfl), ?_, ?_, ?_, ?_, ?_, ?_, ?_, ?_, He.int_ok KX Gn (d.fact 9 (f := .int "MOST_COUNT" 15) rfl), He.glo_ok KX Gn (d.fact 10 (f := .glo "RANGES") rfl), He.glo_ok KX Gn (d.fact 11 (f := .glo "MEASURES") rfl), He.glo_ok KX Gn (d.fact 12 (f := .glo "KINDS") rfl), He.glo_ok KX Gn (d.fact 13 (f := .glo "WORDS") rfl), c.t.tab 0 (t := tRanges) rfl, ⟨_, He.eqO_ok e1, fun H => JH.tupA_ok (vs := [.int 0, .int 1]) e2 H⟩, ⟨_, He.eqO_ok e3, fun H => JH.tupA_ok (vs := [.int (-128), .int 127]) e4 H⟩, fun H => JH.tupA_ok (vs := [.str "square", .str "dot", .str "bits"]) e5 H, fun H => JH.tupA_ok (vs := [.str "integer", .str "text", .str "flag"]) e6 H, fun H => JH.tupA_ok (vs := [.str "every", .str "has", .str "in", .str "and", .str "or", .str "not", .str "true", .str "false"]) e7 H⟩
    · exact ⟨He.cls_ok (d.fact 18 (f := .cls "Record") rfl), fun f hf => by
      simp only [List.mem_cons, List.not_mem_nil, or_false] at hf
      rcases hf with rfl | rfl | rfl | rfl
      · exact He.noat_ok (d.fact 14 (f := .noat "Record" "name") rfl)
      · exact He.noat_ok (d.fact 15 (f := .noat "Record" "vector") rfl)
      · exact He.noat_ok (d.fact 16 (f := .noat "Record" "fields") rfl)
      · exact He.noat_ok (d.fact 17 (f := .noat "Record" "words") rfl)⟩
    · exact ⟨He.cls_ok (d.fact 23 (f := .cls "Schema") rfl), fun f hf => by
      simp only [List.mem_cons, List.not_mem_nil, or_false] at hf
      rcases hf with rfl | rfl | rfl | rfl
      · exact He.noat_ok (d.fact 19 (f := .noat "Schema" "size") rfl)
      · exact He.noat_ok (d.fact 20 (f := .noat "Schema" "width") rfl)
      · exact He.noat_ok (d.fact 21 (f := .noat "Schema" "measure") rfl)
      · exact He.noat_ok (d.fact 22 (f := .noat "Schema" "fields") rfl)⟩
    · exact ⟨He.cls_ok (d.fact 27 (f := .cls "Token") rfl), fun f hf => by
      simp only [List.mem_cons, List.not_mem_nil, or_false] at hf
      rcases hf with rfl | rfl | rfl
      · exact He.noat_ok (d.fact 24 (f := .noat "Token" "kind") rfl)
      · exact He.noat_ok (d.fact 25 (f := .noat "Token" "value") rfl)
      · exact He.noat_ok (d.fact 26 (f := .noat "Token" "place") rfl)⟩
    · exact ⟨He.cls_ok (d.fact 33 (f := .cls "Reader") rfl), fun f hf => by
      simp only [List.mem_cons, List.not_mem_nil, or_false] at hf
      rcases hf with rfl | rfl | rfl | rfl | rfl
      · exact He.noat_ok (d.fact 28 (f := .noat "Reader" "schema") rfl)
      · exact He.noat_ok (d.fact 29 (f := .noat "Reader" "stop") rfl)
      · exact He.noat_ok (d.fact 30 (f := .noat "Reader" "tokens") rfl)
      · exact He.noat_ok (d.fact 31 (f := .noat "Reader" "at") rfl)
      · exact He.noat_ok (d.fact 32 (f := .noat "Reader" "depth") rfl)⟩
    · exact ⟨He.cls_ok (d.fact 37 (f := .cls "Question") rfl), fun f hf => by
      simp only [List.mem_cons, List.not_mem_nil, or_false] at hf
      rcases hf with rfl | rfl | rfl
      · exact He.noat_ok (d.fact 34 (f := .noat "Question" "schema") rfl)
      · exact He.noat_ok (d.fact 35 (f := .noat "Question" "query") rfl)
      · exact He.noat_ok (d.fact 36 (f := .noat "Question" "condition") rfl)⟩
    · exact ⟨He.cls_ok (d.fact 41 (f := .cls "Bound") rfl), fun f hf => by
      simp only [List.mem_cons, List.not_mem_nil, or_false] at hf
      rcases hf with rfl | rfl | rfl
      · exact He.noat_ok (d.fact 38 (f := .noat "Bound" "cost") rfl)
      · exact He.noat_ok (d.fact 39 (f := .noat "Bound" "name") rfl)
      · exact He.noat_ok (d.fact 40 (f := .noat "Bound" "can") rfl)⟩
    · exact ⟨He.cls_ok (d.fact 47 (f := .cls "Query") rfl), fun f hf => by
      simp only [List.mem_cons, List.not_mem_nil, or_false] at hf
      rcases hf with rfl | rfl | rfl | rfl | rfl
      · exact He.noat_ok (d.fact 42 (f := .noat "Query" "vector") rfl)
      · exact He.noat_ok (d.fact 43 (f := .noat "Query" "near") rfl)
      · exact He.noat_ok (d.fact 44 (f := .noat "Query" "words") rfl)
      · exact He.noat_ok (d.fact 45 (f := .noat "Query" "text") rfl)
      · exact He.noat_ok (d.fact 46 (f := .noat "Query" "most") rfl)⟩
    · exact ⟨He.cls_ok (d.fact 49 (f := .cls "Counts") rfl), fun f hf => by
      simp only [List.mem_cons, List.not_mem_nil, or_false] at hf
      rcases hf with rfl
      · exact He.noat_ok (d.fact 48 (f := .noat "Counts" "words") rfl)⟩
  obtain ⟨fd16, Fn16⟩ := d.def_ 16 (d := dd16) rfl
  have gRow : GF W 1 "_law_row" (spJ (sRow W.K)) := ⟨_, fd16, _, ok_row Fn16 fx.len fx.int, He.glo_ok KX Gn (d.fact 50 (f := .glo "_law_row") rfl), Fn16.kp, FunD.bindsN Fn16 fun _ _ _ _ _ _ us hl => match us, hl with | [_, _], _ => rfl⟩
  obtain ⟨fd17, Fn17⟩ := d.def_ 17 (d := dd17) rfl
  have gNx : GF W 2 "_law_next" (spJ (sNx W.K)) := ⟨_, fd17, _, ok_nx (ok_next Fn17 fx.int gRow), He.glo_ok KX Gn (d.fact 51 (f := .glo "_law_next") rfl), Fn17.kp, FunD.bindsN Fn17 fun _ _ _ _ _ _ us hl => match us, hl with | [_, _], _ => rfl⟩
  obtain ⟨fd0, Fn0⟩ := d.def_ 0 (d := dd0) rfl
  have gInn : GF W 1 "inner" (spJ (sNum W.K gInner)) := ⟨_, fd0, _, ok_inner fx Fn0, He.glo_ok KX Gn (d.fact 52 (f := .glo "inner") rfl), Fn0.kp, FunD.bindsN Fn0 fun _ _ _ _ _ _ us hl => match us, hl with | [_, _], _ => rfl⟩
  obtain ⟨fd1, Fn1⟩ := d.def_ 1 (d := dd1) rfl
  have gDis : GF W 1 "distance" (spJ (sNum W.K gDist)) := ⟨_, fd1, _, ok_distance fx Fn1, He.glo_ok KX Gn (d.fact 53 (f := .glo "distance") rfl), Fn1.kp, FunD.bindsN Fn1 fun _ _ _ _ _ _ us hl => match us, hl with | [_, _], _ => rfl⟩
  obtain ⟨fd2, Fn2⟩ := d.def_ 2 (d := dd2) rfl
  have gDif : GF W 1 "differing" (spJ (sNum W.K gDiff)) := ⟨_, fd2, _, ok_differing fx Fn2, He.glo_ok KX Gn (d.fact 54 (f := .glo "differing") rfl), Fn2.kp, FunD.bindsN Fn2 fun _ _ _ _ _ _ us hl => match us, hl with | [_, _], _ => rfl⟩
  obtain ⟨fd3, Fn3⟩ := d.def_ 3 (d := dd3) rfl
  have gLet : GF W 1 "is_letter" (spJ (sLet)) := ⟨_, fd3, _, ok_letter Fn3, He.glo_ok KX Gn (d.fact 55 (f := .glo "is_letter") rfl), Fn3.kp, FunD.bindsN Fn3 fun _ _ _ _ _ _ us hl => match us, hl with | [_], _ => rfl⟩
  obtain ⟨fd5, Fn5⟩ := d.def_ 5 (d := dd5) rfl
  have gFnm : GF W 2 "is_field_name" (spJ (sFname)) := ⟨_, fd5, _, ok_fname fx Fn5 gLet, He.glo_ok KX Gn (d.fact 56 (f := .glo "is_field_name") rfl), Fn5.kp, FunD.bindsN Fn5 fun _ _ _ _ _ _ us hl => match us, hl with | [_], _ => rfl⟩
  obtain ⟨fp0, Fp0⟩ := c.getter 0 (d := p0) rfl
  have gLo : GP W 1 (He.ga W.K "Schema") "least" (spJ (sLo W.K)) := ⟨_, _, fp0, _, He.cls_ok (d.fact 23 (f := .cls "Schema") rfl), JH.propB_ok ep0, ok_lo fx Fp0, FunD.bindsN Fp0 fun _ _ _ _ _ _ us hl => match us, hl with | [_], _ => rfl⟩
  obtain ⟨fp1, Fp1⟩ := c.getter 1 (d := p1) rfl
  have gHi : GP W 1 (He.ga W.K "Schema") "greatest" (spJ (sHi W.K)) := ⟨_, _, fp1, _, He.cls_ok (d.fact 23 (f := .cls "Schema") rfl), JH.propB_ok ep1, ok_hi fx Fp1, FunD.bindsN Fp1 fun _ _ _ _ _ _ us hl => match us, hl with | [_], _ => rfl⟩
  obtain ⟨fd27, Fn27⟩ := d.def_ 27 (d := dd27) rfl
  have gFar : GM W 2 (He.ga W.K "Schema") "far" (spJ (sFar W.K)) := ⟨_, fd27, _, He.cls_ok (d.fact 23 (f := .cls "Schema") rfl), He.meth_ok (d.fact 57 (f := .meth "Schema" "far") rfl), ok_far fx Fn27 gInn gDis gDif, FunD.bindsN Fn27 fun _ _ _ _ _ _ us hl => match us, hl with | [_, _, _], _ => rfl⟩
  obtain ⟨fd28, Fn28⟩ := d.def_ 28 (d := dd28) rfl
  have gHas : GM W 3 (He.ga W.K "Schema") "has_vector" (spJ (sHas W.K)) := ⟨_, fd28, _, He.cls_ok (d.fact 23 (f := .cls "Schema") rfl), He.meth_ok (d.fact 58 (f := .meth "Schema" "has_vector") rfl), ok_has fx Fn28 gLo gHi, FunD.bindsN Fn28 fun _ _ _ _ _ _ us hl => match us, hl with | [_, _], _ => rfl⟩
  obtain ⟨fd29, Fn29⟩ := d.def_ 29 (d := dd29) rfl
  have gTok : GC W 1 "Token" (He.ga W.K "Token") (spJ ((iTok W.K).fs (He.ga W.K "Token"))) := ⟨_, fd29, _, He.mkr_ok (d.fact 59 (f := .mkr "Token") rfl), ok_token fx Fn29, He.glo_ok KX Gn (d.fact 60 (f := .glo "Token") rfl), FunD.bindsN Fn29 fun _ _ _ _ _ _ us hl => match us, hl with | [_, _, _, _], _ => rfl⟩
  obtain ⟨fd6, Fn6⟩ := d.def_ 6 (d := dd6) rfl
  have gEow : GF W 2 "end_of_word" (spJ (sEow)) := ⟨_, fd6, _, ok_eow fx Fn6 gLet, He.glo_ok KX Gn (d.fact 61 (f := .glo "end_of_word") rfl), Fn6.kp, FunD.bindsN Fn6 fun _ _ _ _ _ _ us hl => match us, hl with | [_, _], _ => rfl⟩
  obtain ⟨fd7, Fn7⟩ := d.def_ 7 (d := dd7) rfl
  have gRtk : GF W 3 "read_token" (spJ (sRtk W.K)) := ⟨_, fd7, _, ok_rtk fx Fn7 gLet gEow gTok, He.glo_ok KX Gn (d.fact 62 (f := .glo "read_token") rfl), Fn7.kp, FunD.bindsN Fn7 fun _ _ _ _ _ _ us hl => match us, hl with | [_, _], _ => rfl⟩
  obtain ⟨fd8, Fn8⟩ := d.def_ 8 (d := dd8) rfl
  have gRts : GF W 4 "read_tokens" (spJ (sRtks W.K)) := ⟨_, fd8, _, ok_rtks fx Fn8 gRtk, He.glo_ok KX Gn (d.fact 63 (f := .glo "read_tokens") rfl), Fn8.kp, FunD.bindsN Fn8 fun _ _ _ _ _ _ us hl => match us, hl with | [_], _ => rfl⟩
  obtain ⟨fd30, Fn30⟩ := d.def_ 30 (d := dd30) rfl
  have gRdr : GC W 5 "Reader" (He.ga W.K "Reader") (spJ ((iRdr W.K).fs (He.ga W.K "Reader"))) := ⟨_, fd30, _, He.mkr_ok (d.fact 64 (f := .mkr "Reader") rfl), ok_reader fx Fn30 gRts, He.glo_ok KX Gn (d.fact 65 (f := .glo "Reader") rfl), FunD.bindsN Fn30 fun _ _ _ _ _ _ us hl => match us, hl with | [_, _, _], _ => rfl⟩
  obtain ⟨fd31, Fn31⟩ := d.def_ 31 (d := dd31) rfl
  have gSees : GM W 1 (He.ga W.K "Reader") "sees" (spJ (sSees W.K)) := ⟨_, fd31, _, He.cls_ok (d.fact 33 (f := .cls "Reader") rfl), He.meth_ok (d.fact 66 (f := .meth "Reader" "sees") rfl), ok_sees fx Fn31, FunD.bindsN Fn31 fun _ _ _ _ _ _ us hl => match us, hl with | [_, _, _], _ => rfl⟩
  obtain ⟨fd32, Fn32⟩ := d.def_ 32 (d := dd32) rfl
  have gWord : GM W 1 (He.ga W.K "Reader") "word" (spJ (sWord W.K)) := ⟨_, fd32, _, He.cls_ok (d.fact 33 (f := .cls "Reader") rfl), He.meth_ok (d.fact 67 (f := .meth "Reader" "word") rfl), ok_word fx Fn32, FunD.bindsN Fn32 fun _ _ _ _ _ _ us hl => match us, hl with | [_], _ => rfl⟩
  obtain ⟨fd33, Fn33⟩ := d.def_ 33 (d := dd33) rfl
  have gSkip : GM W 2 (He.ga W.K "Reader") "skip" (spJ (sSkip W.K)) := ⟨_, fd33, _, He.cls_ok (d.fact 33 (f := .cls "Reader") rfl), He.meth_ok (d.fact 68 (f := .meth "Reader" "skip") rfl), ok_skip fx Fn33 gSees, FunD.bindsN Fn33 fun _ _ _ _ _ _ us hl => match us, hl with | [_, _, _], _ => rfl⟩
  obtain ⟨fd36, Fn36⟩ := d.def_ 36 (d := dd36) rfl
  have gCond : GM W 3 (He.ga W.K "Reader") "condition" (spJ (sCond W.K)) := ⟨_, fd36, _, He.cls_ok (d.fact 33 (f := .cls "Reader") rfl), He.meth_ok (d.fact 70 (f := .meth "Reader" "condition") rfl), ok_condition fx Fn36 gSees gWord gSkip (He.glo_ok KX Gn (d.fact 69 (f := .glo "Every") rfl)) (JH.mk0B_ok e8), FunD.bindsN Fn36 fun _ _ _ _ _ _ us hl => match us, hl with | [_], _ => rfl⟩
  obtain ⟨fd35, Fn35⟩ := d.def_ 35 (d := dd35) rfl
  have gConds : GM W 4 (He.ga W.K "Reader") "conditions" (spJ (sCond W.K)) := ⟨_, fd35, _, He.cls_ok (d.fact 33 (f := .cls "Reader") rfl), He.meth_ok (d.fact 71 (f := .meth "Reader" "conditions") rfl), ok_conditions fx Fn35 gCond gSkip, FunD.bindsN Fn35 fun _ _ _ _ _ _ us hl => match us, hl with | [_], _ => rfl⟩
  obtain ⟨fd34, Fn34⟩ := d.def_ 34 (d := dd34) rfl
  have gWhole : GM W 5 (He.ga W.K "Reader") "whole" (spJ (sCond W.K)) := ⟨_, fd34, _, He.cls_ok (d.fact 33 (f := .cls "Reader") rfl), He.meth_ok (d.fact 72 (f := .meth "Reader" "whole") rfl), ok_whole fx Fn34 gConds gSkip, FunD.bindsN Fn34 fun _ _ _ _ _ _ us hl => match us, hl with | [_], _ => rfl⟩
  obtain ⟨fd9, Fn9⟩ := d.def_ 9 (d := dd9) rfl
  have gFilt : GF W 7 "read_filter" (spJ (sFilt W.K)) := ⟨_, fd9, _, ok_filter fx Fn9 gRdr gWhole, He.glo_ok KX Gn (d.fact 73 (f := .glo "read_filter") rfl), Fn9.kp, FunD.bindsN Fn9 fun _ _ _ _ _ _ us hl => match us, hl with | [_, _], _ => rfl⟩
  obtain ⟨fd10, Fn10⟩ := d.def_ 10 (d := dd10) rfl
  have gChk : GF W 4 "check_query" (spJ (sChk W.K)) := ⟨_, fd10, _, ok_chk fx Fn10 gHas, He.glo_ok KX Gn (d.fact 74 (f := .glo "check_query") rfl), Fn10.kp, FunD.bindsN Fn10 fun _ _ _ _ _ _ us hl => match us, hl with | [_, _], _ => rfl⟩
  obtain ⟨fd37, Fn37⟩ := d.def_ 37 (d := dd37) rfl
  have gQn : GC W 8 "Question" (He.ga W.K "Question") (spJ ((iQn W.K).fs (He.ga W.K "Question"))) := ⟨_, fd37, _, He.mkr_ok (d.fact 75 (f := .mkr "Question") rfl), ok_question fx Fn37 gChk gFilt, He.glo_ok KX Gn (d.fact 76 (f := .glo "Question") rfl), FunD.bindsN Fn37 fun _ _ _ _ _ _ us hl => match us, hl with | [_, _, _], _ => rfl⟩
  obtain ⟨fd25, Fn25⟩ := d.def_ 25 (d := dd25) rfl
  have gCof : GM W 1 (He.ga W.K "Record") "count_of" (spJ (sCnt W.K)) := ⟨_, fd25, _, He.cls_ok (d.fact 18 (f := .cls "Record") rfl), He.meth_ok (d.fact 77 (f := .meth "Record" "count_of") rfl), ok_cnt fx Fn25, FunD.bindsN Fn25 fun _ _ _ _ _ _ us hl => match us, hl with | [_, _], _ => rfl⟩
  obtain ⟨fd38, Fn38⟩ := d.def_ 38 (d := dd38) rfl
  have gCost : GM W 3 (He.ga W.K "Question") "cost" (spJ (sCost W.K)) := ⟨_, fd38, _, He.cls_ok (d.fact 37 (f := .cls "Question") rfl), He.meth_ok (d.fact 78 (f := .meth "Question" "cost") rfl), ok_cost fx Fn38 gFar gCof, FunD.bindsN Fn38 fun _ _ _ _ _ _ us hl => match us, hl with | [_, _], _ => rfl⟩
  obtain ⟨fd41, Fn41⟩ := d.def_ 41 (d := dd41) rfl
  have gCnt : GC W 1 "Counts" (He.ga W.K "Counts") (spJ ((iCnt W.K).fs (He.ga W.K "Counts"))) := ⟨_, fd41, _, He.mkr_ok (d.fact 79 (f := .mkr "Counts") rfl), ok_counts fx Fn41, He.glo_ok KX Gn (d.fact 80 (f := .glo "Counts") rfl), FunD.bindsN Fn41 fun _ _ _ _ _ _ us hl => match us, hl with | [_, _], _ => rfl⟩
  obtain ⟨fd42, Fn42⟩ := d.def_ 42 (d := dd42) rfl
  have gCb : GM W 1 (He.ga W.K "Counts") "count_bound" (spJ (sCb W.K)) := ⟨_, fd42, _, He.cls_ok (d.fact 49 (f := .cls "Counts") rfl), He.meth_ok (d.fact 81 (f := .meth "Counts" "count_bound") rfl), ok_cb fx Fn42, FunD.bindsN Fn42 fun _ _ _ _ _ _ us hl => match us, hl with | [_, _], _ => rfl⟩
  obtain ⟨fd43, Fn43⟩ := d.def_ 43 (d := dd43) rfl
  have gNw : GM W 1 (He.ga W.K "Counts") "names_word" (spJ (sNw W.K)) := ⟨_, fd43, _, He.cls_ok (d.fact 49 (f := .cls "Counts") rfl), He.meth_ok (d.fact 82 (f := .meth "Counts" "names_word") rfl), ok_nw fx Fn43, FunD.bindsN Fn43 fun _ _ _ _ _ _ us hl => match us, hl with | [_, _], _ => rfl⟩
  obtain ⟨fd44, Fn44⟩ := d.def_ 44 (d := dd44) rfl
  have gHolds : GM W 2 (He.ga W.K "Counts") "holds" (spJ (sHolds W.K)) := ⟨_, fd44, _, He.cls_ok (d.fact 49 (f := .cls "Counts") rfl), He.meth_ok (d.fact 83 (f := .meth "Counts" "holds") rfl), ok_holds fx Fn44 gNw gCb, FunD.bindsN Fn44 fun _ _ _ _ _ _ us hl => match us, hl with | [_, _], _ => rfl⟩
  obtain ⟨fd45, Fn45⟩ := d.def_ 45 (d := dd45) rfl
  have gNm : GM W 1 (He.ga W.K "Counts") "name_bound" (spJ (sNone W.K)) := ⟨_, fd45, _, He.cls_ok (d.fact 49 (f := .cls "Counts") rfl), He.meth_ok (d.fact 84 (f := .meth "Counts" "name_bound") rfl), ok_nm Fn45, FunD.bindsN Fn45 fun _ _ _ _ _ _ us hl => match us, hl with | [_], _ => rfl⟩
  obtain ⟨fd39, Fn39⟩ := d.def_ 39 (d := dd39) rfl
  have gBnd : GC W 1 "Bound" (He.ga W.K "Bound") (spJ ((iBnd W.K).fs (He.ga W.K "Bound"))) := ⟨_, fd39, _, He.mkr_ok (d.fact 85 (f := .mkr "Bound") rfl), ok_bound fx Fn39, He.glo_ok KX Gn (d.fact 86 (f := .glo "Bound") rfl), FunD.bindsN Fn39 fun _ _ _ _ _ _ us hl => match us, hl with | [_, _, _, _], _ => rfl⟩
  obtain ⟨fd12, Fn12⟩ := d.def_ 12 (d := dd12) rfl
  have gMc : GF W 2 "most_count" (spJ (sMc W.K)) := ⟨_, fd12, _, ok_mc fx Fn12 gCb, He.glo_ok KX Gn (d.fact 87 (f := .glo "most_count") rfl), Fn12.kp, FunD.bindsN Fn12 fun _ _ _ _ _ _ us hl => match us, hl with | [_, _], _ => rfl⟩
  obtain ⟨fd13, Fn13⟩ := d.def_ 13 (d := dd13) rfl
  have gLc : GF W 3 "least_cost" (spJ (sLc W.K)) := ⟨_, fd13, _, ok_lc fx Fn13 gMc, He.glo_ok KX Gn (d.fact 88 (f := .glo "least_cost") rfl), Fn13.kp, FunD.bindsN Fn13 fun _ _ _ _ _ _ us hl => match us, hl with | [_, _], _ => rfl⟩
  obtain ⟨fd14, Fn14⟩ := d.def_ 14 (d := dd14) rfl
  have gLn : GF W 2 "least_name" (spJ (sLn W.K)) := ⟨_, fd14, _, ok_ln fx Fn14 gNm, He.glo_ok KX Gn (d.fact 89 (f := .glo "least_name") rfl), Fn14.kp, FunD.bindsN Fn14 fun _ _ _ _ _ _ us hl => match us, hl with | [_], _ => rfl⟩
  obtain ⟨fd11, Fn11⟩ := d.def_ 11 (d := dd11) rfl
  have gCan : GF W 1 "can_pass" (spJ (sCan W.K)) := ⟨_, fd11, _, ok_can fx Fn11 (He.glo_ok KX Gn (d.fact 69 (f := .glo "Every") rfl)) (JH.ityB_ok (He.cls_ok (d.fact 90 (f := .cls "Every") rfl)) e9) (of_decide_eq_true e10), He.glo_ok KX Gn (d.fact 91 (f := .glo "can_pass") rfl), Fn11.kp, FunD.bindsN Fn11 fun _ _ _ _ _ _ us hl => match us, hl with | [_, _], _ => rfl⟩
  obtain ⟨fd15, Fn15⟩ := d.def_ 15 (d := dd15) rfl
  have gBo : GF W 4 "bound_of" (spJ (sBo W.K)) := ⟨_, fd15, _, ok_bo fx Fn15 gLc gLn gCan gBnd, He.glo_ok KX Gn (d.fact 92 (f := .glo "bound_of") rfl), Fn15.kp, FunD.bindsN Fn15 fun _ _ _ _ _ _ us hl => match us, hl with | [_, _], _ => rfl⟩
  obtain ⟨fd22, Fn22⟩ := d.def_ 22 (d := dd22) rfl
  have gLb : GF W 1 "_law_bound" (spJ (sLb W.K)) := ⟨_, fd22, _, ok_lb Fn22, He.glo_ok KX Gn (d.fact 93 (f := .glo "_law_bound") rfl), Fn22.kp, FunD.bindsN Fn22 fun _ _ _ _ _ _ us hl => match us, hl with | [_, _], _ => rfl⟩
  obtain ⟨fd26, Fn26⟩ := d.def_ 26 (d := dd26) rfl
  obtain ⟨mv26, hb26⟩ := FunD.kbinds0 Fn26 (ps := ["self", "size", "width", "measure", "fields"]) 2 ["width", "measure", "fields"] [] (fun us mv ws => us ++ ws) (by simp [He.DefD.kws, dd26]) (fun q h => absurd h (by simp)) (fun r1 r2 r3 => r1.append r3)
    (fun D doc pm an cdv ct us mv ws h1 h2 h3 => match us, mv, ws, h1, h2, h3 with | [_, _], [], [_, _, _], _, _, _ => rfl)
  have gSch : GCK W 3 "Schema" (He.ga W.K "Schema") (spJ ((iSch W.K).fs (He.ga W.K "Schema"))) 1 ["width", "measure", "fields"] (fun vs zs => vs ++ zs) := ⟨_, fd26, _, _, He.mkr_ok (d.fact 94 (f := .mkr "Schema") rfl), ok_schema fx Fn26 gFnm, He.glo_ok KX Gn (d.fact 95 (f := .glo "Schema") rfl), hb26⟩
  obtain ⟨fd24, Fn24⟩ := d.def_ 24 (d := dd24) rfl
  obtain ⟨mv24, hb24⟩ := FunD.kbinds0 Fn24 (ps := ["self", "name", "vector", "fields", "words"]) 3 ["words"] [("fields", .ref (JH.kwdAt ("Record", some "__init__") "fields" W.K))] (fun us mv ws => us ++ (mv ++ ws)) (by simp [He.DefD.kws, dd24]) (fun q h => by rw [List.mem_singleton.mp h]; exact List.mem_cons_self) (fun r1 r2 r3 => r1.append (r2.append r3))
    (fun D doc pm an cdv ct us mv ws h1 h2 h3 => match us, mv, ws, h1, h2, h3 with | [_, _, _], [_], [_], _, _, _ => ⟨_, _, _, _, _, _, rfl, rfl, rfl⟩)
  have gRec : GCK W 1 "Record" (He.ga W.K "Record") (spJ ((iRec W.K).fs (He.ga W.K "Record"))) 2 ["words"] (fun vs zs => vs ++ (.ref (JH.kwdAt ("Record", some "__init__") "fields" W.K) :: zs)) := ⟨_, fd24, _, _, He.mkr_ok (d.fact 96 (f := .mkr "Record") rfl), ok_record fx Fn24, He.glo_ok KX Gn (d.fact 97 (f := .glo "Record") rfl), hb24⟩
  obtain ⟨fd40, Fn40⟩ := d.def_ 40 (d := dd40) rfl
  obtain ⟨mv40, hb40⟩ := FunD.kbinds0 Fn40 (ps := ["self", "vector", "near", "words", "text", "most"]) 2 ["near", "words"] [("text", .str "every"), ("most", .int 1)] (fun us mv ws => us ++ (ws ++ mv)) (by simp [He.DefD.kws, dd40]) (fun q h => by
      rcases List.mem_cons.mp h with e | h
      · rw [e]; exact List.mem_cons_of_mem _ (List.mem_cons_of_mem _ List.mem_cons_self)
      · rw [List.mem_singleton.mp h]; exact List.mem_cons_of_mem _ (List.mem_cons_of_mem _ (List.mem_cons_of_mem _ List.mem_cons_self))) (fun r1 r2 r3 => r1.append (r3.append r2))
    (fun D doc pm an cdv ct us mv ws h1 h2 h3 => match us, mv, ws, h1, h2, h3 with | [_, _], [_, _], [_, _], _, _, _ => ⟨_, _, _, _, _, _, rfl, rfl, _, _, _, _, _, _, rfl, rfl, rfl⟩)
  have gQry : GCK W 1 "Query" (He.ga W.K "Query") (spJ ((iQry W.K).fs (He.ga W.K "Query"))) 1 ["near", "words"] (fun vs zs => vs ++ (zs ++ [.str ev, .int 1])) := ⟨_, fd40, _, _, He.mkr_ok (d.fact 98 (f := .mkr "Query") rfl), ok_query fx Fn40, He.glo_ok KX Gn (d.fact 99 (f := .glo "Query") rfl), hb40⟩
  obtain ⟨fd18, Fn18⟩ := d.def_ 18 (d := dd18) rfl
  have gLs : GF W 5 "_law_schema" (spJ (sLs W.K)) := ⟨_, fd18, _, ok_lschema fx Fn18 gNx gSch, He.glo_ok KX Gn (d.fact 100 (f := .glo "_law_schema") rfl), Fn18.kp, FunD.bindsN Fn18 fun _ _ _ _ _ _ us hl => match us, hl with | [_], _ => rfl⟩
  obtain ⟨fd19, Fn19⟩ := d.def_ 19 (d := dd19) rfl
  have gVec : GF W 3 "_law_vector" (spJ (sVec W.K)) := ⟨_, fd19, _, ok_vec fx Fn19 gNx, He.glo_ok KX Gn (d.fact 101 (f := .glo "_law_vector") rfl), Fn19.kp, FunD.bindsN Fn19 fun _ _ _ _ _ _ us hl => match us, hl with | [_, _], _ => rfl⟩
  obtain ⟨fd20, Fn20⟩ := d.def_ 20 (d := dd20) rfl
  have gWords : GF W 3 "_law_words" (spJ (sWords W.K)) := ⟨_, fd20, _, ok_words fx Fn20 gNx, He.glo_ok KX Gn (d.fact 102 (f := .glo "_law_words") rfl), Fn20.kp, FunD.bindsN Fn20 fun _ _ _ _ _ _ us hl => match us, hl with | [_, _], _ => rfl⟩
  obtain ⟨fd21, Fn21⟩ := d.def_ 21 (d := dd21) rfl
  have gCounts : GF W 3 "_law_counts" (spJ (sCounts W.K)) := ⟨_, fd21, _, ok_lcounts fx Fn21 gNx gCnt, He.glo_ok KX Gn (d.fact 103 (f := .glo "_law_counts") rfl), Fn21.kp, FunD.bindsN Fn21 fun _ _ _ _ _ _ us hl => match us, hl with | [_, _], _ => rfl⟩
  have gs : Gs W := ⟨gNx, gLs, gVec, gWords, gCounts, gLb, ⟨_, fun H => JH.tupA_ok (vs := []) e11 H, gRec⟩, gQry, gQn, gHolds, gCost, gBo⟩
  exact ok_law fx FnL gs
end K92
set_option maxHeartbeats 0
namespace K92
open PySem PySem.W PySem.Calls PyProof.Rows
abbrev R : OpenRow := OpenLaw.row PySem.Challenge.rw_surenear_k92_counts_bound_no_record_too
abbrev qv : Program := view R.prog [82]
def names : List PySem.Str := (["_wall", "Rank", "SurenearError", "InvalidSchema", "InvalidFilter", "InvalidQuery", "same_value", "same_fields", "Record", "compare", "written_value", "Condition", "Every", "Has", "Compare", "OneOf", "Both", "Either", "Negation", "written_part", "written", "inner", "distance", "differing", "RANGES", "MEASURES", "KINDS", "WORDS", "is_letter", "is_digit"] : List PySem.Str) ++ (["is_field_name", "kind_of_value", "words_fit", "Schema", "SIGNS", "Token", "end_of_word", "end_of_digits", "read_integer", "read_quoted", "read_sign", "read_token", "read_tokens", "COMPARISONS", "MOST_OPEN", "Reader", "read_filter", "MOST_COUNT", "check_query", "Question", "Bound", "outcomes_of", "can_pass", "least_far", "most_count", "least_cost", "least_name", "bound_of", "Query", "Fact"] : List PySem.Str) ++ (["Counts", "_law_row", "_law_next", "_law_schema", "_law_vector", "_law_words", "_law_counts", "_law_bound"] : List PySem.Str)
def asL : List PySem.Addr := [3, 142, 144, 148, 149, 162, 163, 172, 173, 242, 243, 263, 264, 440, 441, 447, 448, 454, 455, 456, 457, 458, 460, 461, 462, 468, 469, 475, 476, 482, 483, 506, 510, 511, 517, 518, 519, 525, 526, 527, 540, 541, 547, 548, 578, 579, 597, 598, 607, 608, 618, 619, 653, 654, 660, 661, 675, 676, 696, 697, 703, 704, 710, 711, 724, 725, 731, 732, 738, 739, 769, 770, 780, 781, 787, 788, 801, 802, 815, 816, 830, 831, 848, 849, 858, 859, 876, 877, 888, 889, 895, 896, 902, 903, 909, 910, 919, 923, 924, 933, 934, 986, 987, 996, 997, 1012, 1013, 1019, 1020, 1026, 1027, 1033, 1034, 1043, 1044, 1052, 1053, 1059, 1060, 1066, 1067, 1071, 1072, 1078, 1079, 1083, 1084, 1090, 1091, 1095, 1096]
abbrev hk : Hook := JH.hookJ asL faL fnL pgL tsL exB
def ob (s : SharedT) : JH.AlJ := JH.obsJG asL faL fnL pgL tsL exB (HandSHeadRun.getT s)
theorem ob_eq (s : SharedT) : ob s = hk.obs s.abs := JH.obsJG_eq (HandSHeadRun.getT_eq s)
def RunP (w : World) : Prop := HandSHeadRun.RunEq R qv hk ob 12000 names w
theorem run1 (w : World) : RunP (w.withFollow "special-get-raises" false) := by
  intro os
  kernel_rfl
theorem run2 (w : World) : RunP (w.withFollow "special-get-raises" true) := by
  intro os
  kernel_rfl
theorem run (w : World) : HandSHeadRun.RunEq R qv hk ob 12000 names w := byRow2 "special-get-raises" (P := RunP) run1 run2 w
theorem ints_all {F : L2.Hp} : ∀ ns : List Int, J.All (ns.map J.IsInt) (ns.map L2.V.int) F
  | [] => trivial
  | n :: ns => ⟨rfl, ints_all ns⟩
end K92
open PySem PySem.W PySem.Calls PyProof.Rows
theorem PySem.Challenge.cw_surenear_k92_counts_bound_no_record_too_holds : PySem.Challenge.rw_surenear_k92_counts_bound_no_record_too.Holds := by
  w_on; o_law
  refine HandSHeadRun.head_any (r := OpenLaw.row PySem.Challenge.rw_surenear_k92_counts_bound_no_record_too) (q := view (OpenLaw.row PySem.Challenge.rw_surenear_k92_counts_bound_no_record_too).prog [82]) (H := K92.hk) (ob := K92.ob) (M := 12000) (loose := K92.names) (d := HandSHeadRun.topDef (OpenLaw.row PySem.Challenge.rw_surenear_k92_counts_bound_no_record_too).prog 82) (kwd := []) K92.ob_eq
    (by kernel_rfl) (fun s => by kernel_rfl) K92.run (by kernel_rfl) (by kernel_rfl) (by kernel_rfl) (by rfl) (by first | assumption | decide +kernel) (by decide +kernel) ⟨rfl, rfl, rfl, rfl, rfl, by decide +kernel⟩ ?hw ?hc
  case hw => w_witness2
  case hc =>
    refine L2.walk_ofE (l := PySem.Challenge.rw_surenear_k92_counts_bound_no_record_too) (n := 63) (k := 10) (x := "_law_script") (CX := L2.CX0) rfl (by decide) (by kernel_rfl) ⟨rfl, by decide, by decide⟩ ?F (fun _ _ _ _ z => z)
    intro w mg fa h Y G hmg0
    obtain ⟨K, KX, c⟩ := Y
    have hmg : mg ("law" : PySem.Str) = some (.ref fa) := by
      have e : (HandSHeadRun.topDef (OpenLaw.row PySem.Challenge.rw_surenear_k92_counts_bound_no_record_too).prog 82).name = ("law" : PySem.Str) := by kernel_rfl
      rw [← e]
      exact hmg0
    obtain ⟨fd, hb, hF⟩ := K92.facts (P := (PySem.Challenge.rw_surenear_k92_counts_bound_no_record_too).prog) (w := w) KX G hmg c
    exact ⟨K, fd, J.spJ (K92.sLaw K), KX, hb, fun H a ns hl _ hS => ⟨ns, H, [], trivial, ⟨⟨a, ns.map L2.V.int, rfl, hS, K92.ints_all ns⟩, trivial⟩, J.Sep.base, fun y v F' H' _ _ r => r⟩, fun base _ _ => hF base⟩
