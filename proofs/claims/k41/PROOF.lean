import PyProof.Rows.All
import Wide.All
import OpenK.AllK
import Wide.FinOn
import HandS.ForMost
import HandS.IsInst
import HandS.Wide
import HandS.Steps
import HandS.Style
import HandS.TupAny
import HandS.Codes
import HandS.SortInts
import HandS.TryOnly
import HandS.TryMany
import HandS.ExcOwn
import HandS.ExcInit
import HandS.ExcField
import HandS.ExcIs
import HandS.WordsExc
import HandS.Walk
import KE.GoesEnum
import KE.SortData
import HandS.Deep
import HandS.DeepEq
import HandS.Conv
import HandS.Property
import HandS.Set
import HandS.SetFor
import HandS.Strs
import HandS.SortOrd
import KE.KDictSum
import PySem.Challenge.RW_resttricks_k41_asked_again
set_option Elab.async false
set_option linter.all false
set_option maxRecDepth 100000
set_option maxHeartbeats 4000000
/-! ## the layer: what is owned, step by step -/
namespace R
open PySem PySem.Spec PyProof.Rows L2
open PySem.W (Frag)

def del1 (H : Hp) (a : Addr) : Hp := fun b => if b = a then none else H b
/-- B: what stays; Lw: what this frame may change, as it stands -/
structure Own (B : Hp) (Lw : List (Addr × HO)) (H : Hp) : Prop where
  st : ∀ a o, B a = some o → H a = some o
  ow : ∀ p ∈ Lw, H p.1 = some p.2
  no : ∀ p ∈ Lw, B p.1 = none
  nd : (Lw.map (·.1)).Nodup
theorem Own.refl (H : Hp) : Own H [] H := ⟨fun _ _ h => h, fun _ h => by simp at h, fun _ h => by simp at h, by simp⟩
theorem Own.refl1 {H : Hp} {a : Addr} {o : HO} (h : H a = some o) : Own (del1 H a) [(a, o)] H := by
  refine ⟨fun b u e => ?_, fun p hp => ?_, fun p hp => ?_, by simp⟩
  · unfold del1 at e
    split at e
    · cases e
    · exact e
  · have e : p = (a, o) := by simpa using hp
    rw [e]; exact h
  · have e : p = (a, o) := by simpa using hp
    rw [e]; unfold del1; rw [if_pos rfl]
section
variable {B H H' : Hp} {Lw : List (Addr × HO)} {a b p : Addr} {o u : HO} {K : Frag} {xs : List V}
theorem Own.get (O : Own B Lw H) (i : Nat) (h : Lw[i]? = some (a, o)) : H a = some o := O.ow (a, o) (List.mem_of_getElem? h)
theorem Own.gone (O : Own B Lw H) (i : Nat) (h : Lw[i]? = some (a, o)) : B a = none := O.no (a, o) (List.mem_of_getElem? h)
theorem Own.seq (O : Own B Lw H) (h : SqL K B a xs) : SqL K H a xs := by
  rcases h with (h | ⟨q, h⟩) | h
  · exact .inl (.inl (O.st _ _ h))
  · exact .inl (.inr ⟨q, O.st _ _ h⟩)
  · exact .inr h
theorem Own.tup (O : Own B Lw H) (h : SqT K B a xs) : SqT K H a xs := by
  rcases h with (h | ⟨q, h⟩) | h
  · exact .inl (.inl (O.st _ _ h))
  · exact .inl (.inr ⟨q, O.st _ _ h⟩)
  · exact .inr h
theorem Own.sq (O : Own B Lw H) (i : Nat) (h : Lw[i]? = some (a, .lst xs)) : SqL K H a xs := SqL.of (O.get i h)
theorem Own.tq (O : Own B Lw H) (i : Nat) (h : Lw[i]? = some (a, .tup xs)) : SqT K H a xs := SqT.of (O.get i h)
theorem Own.free (O : Own B Lw H) (h : H p = none) : B p = none := by
  cases q : B p with
  | none => rfl
  | some v => rw [O.st _ _ q] at h; cases h
theorem Own.out (O : Own B Lw H) (h : H p = none) : ∀ q ∈ Lw, q.1 ≠ p := fun q hq z => by
  have e := O.ow q hq
  rw [z, h] at e; cases e
/-- a new object -/
theorem Own.new (O : Own B Lw H) (h : H p = none) : Own B ((p, o) :: Lw) (upd H p o) := by
  refine ⟨fun c v e => ?_, fun q hq => ?_, fun q hq => ?_, ?_⟩
  · rw [upd_ne (ne_of_none (O.st _ _ e) h)]; exact O.st _ _ e
  · rcases List.mem_cons.mp hq with rfl | hq
    · exact upd_same
    · show upd H p o q.1 = _
      rw [upd_ne (O.out h q hq)]; exact O.ow q hq
  · rcases List.mem_cons.mp hq with rfl | hq
    · exact O.free h
    · exact O.no q hq
  · rw [List.map_cons, List.nodup_cons]
    refine ⟨fun z => ?_, O.nd⟩
    obtain ⟨q, hq, e⟩ := List.mem_map.mp z
    exact O.out h q hq e
theorem set_map1 : ∀ {Lw : List (Addr × HO)} {i : Nat} {a : Addr} {o o' : HO}, Lw[i]? = some (a, o) → (Lw.set i (a, o')).map (·.1) = Lw.map (·.1)
  | [], _, _, _, _, h => by simp at h
  | x :: r, 0, a, o, o', h => by
    have e : x = (a, o) := by simpa using h
    rw [e]; rfl
  | x :: r, i + 1, a, o, o', h => by
    have ih := set_map1 (Lw := r) (i := i) (o' := o') (by simpa using h)
    show x.1 :: (r.set i (a, o')).map (·.1) = x.1 :: r.map (·.1)
    rw [ih]
theorem mem_set1 : ∀ {Lw : List (Addr × HO)} {i : Nat} {a : Addr} {o o' : HO} {q : Addr × HO}, (Lw.map (·.1)).Nodup → Lw[i]? = some (a, o) → q ∈ Lw.set i (a, o') → q = (a, o') ∨ (q ∈ Lw ∧ q.1 ≠ a)
  | [], _, _, _, _, _, _, h, _ => by simp at h
  | x :: r, 0, a, o, o', q, nd, h, hq => by
    have e : x = (a, o) := by simpa using h
    subst e
    rw [List.map_cons, List.nodup_cons] at nd
    rcases List.mem_cons.mp hq with rfl | hq
    · exact .inl rfl
    · exact .inr ⟨List.mem_cons_of_mem _ hq, fun z => nd.1 (List.mem_map.mpr ⟨q, hq, z⟩)⟩
  | x :: r, i + 1, a, o, o', q, nd, h, hq => by
    rw [List.map_cons, List.nodup_cons] at nd
    have h' : r[i]? = some (a, o) := by simpa using h
    rcases List.mem_cons.mp (show q ∈ x :: r.set i (a, o') from hq) with rfl | hq
    · refine .inr ⟨List.mem_cons_self, fun z => nd.1 (List.mem_map.mpr ⟨(a, o), List.mem_of_getElem? h', z.symm⟩)⟩
    · rcases mem_set1 nd.2 h' hq with z | ⟨z1, z2⟩
      · exact .inl z
      · exact .inr ⟨List.mem_cons_of_mem _ z1, z2⟩
/-- what is owned is changed by someone who keeps all else -/
theorem Own.but (O : Own B Lw H) (i : Nat) (h : Lw[i]? = some (a, o)) (k : ∀ b v, b ≠ a → H b = some v → H' b = some v) (ha : H' a = some u) : Own B (Lw.set i (a, u)) H' := by
  have hB := O.gone i h
  refine ⟨fun c v e => k c v (fun z => ?_) (O.st _ _ e), fun q hq => ?_, fun q hq => ?_, ?_⟩
  · rw [z, hB] at e; cases e
  · rcases mem_set1 O.nd h hq with rfl | ⟨h1, h2⟩
    · exact ha
    · exact k _ _ h2 (O.ow q h1)
  · rcases mem_set1 O.nd h hq with rfl | ⟨h1, h2⟩
    · exact hB
    · exact O.no q h1
  · rw [set_map1 h]; exact O.nd
theorem Own.put (O : Own B Lw H) (i : Nat) (h : Lw[i]? = some (a, o)) : Own B (Lw.set i (a, u)) (upd H a u) :=
  O.but i h (fun b v hb e => by rw [upd_ne hb]; exact e) upd_same
/-- more stands now -/
theorem Own.same (O : Own B Lw H) (s : Same H H') : Own B Lw H' := ⟨fun c v e => s _ _ (O.st _ _ e), fun q hq => s _ _ (O.ow q hq), O.no, O.nd⟩
theorem Own.tail {x : Addr × HO} (O : Own B (x :: Lw) H) : Own B Lw H := ⟨O.st, fun q hq => O.ow q (List.mem_cons_of_mem _ hq), fun q hq => O.no q (List.mem_cons_of_mem _ hq), (List.nodup_cons.mp (by simpa using O.nd)).2⟩
theorem Own.tail2 {x y : Addr × HO} (O : Own B (y :: x :: Lw) H) : Own B (y :: Lw) H := by
  have hn := O.nd
  simp only [List.map_cons, List.nodup_cons, List.mem_cons, not_or] at hn
  refine ⟨O.st, fun q hq => O.ow q ?_, fun q hq => O.no q ?_, ?_⟩
  · rcases List.mem_cons.mp hq with rfl | hq
    · exact List.mem_cons_self
    · exact List.mem_cons_of_mem _ (List.mem_cons_of_mem _ hq)
  · rcases List.mem_cons.mp hq with rfl | hq
    · exact List.mem_cons_self
    · exact List.mem_cons_of_mem _ (List.mem_cons_of_mem _ hq)
  · simp only [List.map_cons, List.nodup_cons]
    exact ⟨hn.1.2, hn.2.2⟩
theorem Own.toSame (O : Own H Lw H') : Same H H' := O.st
/-- at the end: all but a is as it was -/
theorem Own.toBut (O : Own (del1 H a) Lw H') : ∀ b v, b ≠ a → H b = some v → H' b = some v := fun b v hb e => O.st b v (by unfold del1; rw [if_neg hb]; exact e)
theorem del1_seq {o : HO} (h : SqL K H b xs) (ha : H a = some o) (ho : ∀ ys, o ≠ .lst ys ∨ b ≠ a) (hf : ∀ q w, o ≠ .frz q w) (hb : b ≠ a) : SqL K (del1 H a) b xs := by
  rcases h with (h | ⟨q, h⟩) | h
  · exact .inl (.inl (by unfold del1; rw [if_neg hb]; exact h))
  · exact .inl (.inr ⟨q, by unfold del1; rw [if_neg hb]; exact h⟩)
  · exact .inr h
theorem del1_ne {H : Hp} {a b : Addr} (h : b ≠ a) : del1 H a b = H b := by unfold del1; rw [if_neg h]
end
end R
namespace R
open PySem L2
theorem Own.swap {B H : Hp} {Lw : List (Addr × HO)} {x y : Addr × HO} (O : Own B (x :: y :: Lw) H) : Own B (y :: x :: Lw) H := by
  refine ⟨O.st, fun q hq => O.ow q ?_, fun q hq => O.no q ?_, ?_⟩
  · simp only [List.mem_cons] at hq ⊢
    rcases hq with z | z | z
    · exact .inr (.inl z)
    · exact .inl z
    · exact .inr (.inr z)
  · simp only [List.mem_cons] at hq ⊢
    rcases hq with z | z | z
    · exact .inr (.inl z)
    · exact .inl z
    · exact .inr (.inr z)
  · have h := O.nd
    simp only [List.map_cons, List.nodup_cons, List.mem_cons, not_or] at h ⊢
    exact ⟨⟨fun z => h.1.1 z.symm, h.2.1⟩, h.1.2, h.2.2⟩
end R
namespace R
open PySem L2
open PySem.W (Frag)
section
variable {B H H' : Hp} {Lw : List (Addr × HO)} {p : Addr} {o : HO} {K : Frag}
/-- what is owned is let stand for good -/
theorem Own.fix (O : Own B ((p, o) :: Lw) H) : Own (upd B p o) Lw H := by
  have hn := O.nd
  simp only [List.map_cons, List.nodup_cons] at hn
  refine ⟨fun a v e => ?_, fun q hq => O.ow q (List.mem_cons_of_mem _ hq), fun q hq => ?_, hn.2⟩
  · by_cases h : a = p
    · subst h
      rw [upd_same] at e
      rw [← e]
      exact O.ow (a, o) List.mem_cons_self
    · rw [upd_ne h] at e; exact O.st _ _ e
  · have ne : q.1 ≠ p := fun z => hn.1 (List.mem_map.mpr ⟨q, hq, z⟩)
    rw [upd_ne ne]; exact O.no q (List.mem_cons_of_mem _ hq)
theorem Own.fixS (O : Own B ((p, o) :: Lw) H) : Same B (upd B p o) := fun b v e => by
  have h : B p = none := O.no (p, o) List.mem_cons_self
  rw [upd_ne (ne_of_none e h)]; exact e
theorem Own.sub {B' : Hp} (O : Own B' Lw H) (s : Same B B') : Own B Lw H := ⟨fun a v e => O.st _ _ (s _ _ e), O.ow, fun q hq => s.free (O.no q hq), O.nd⟩
end
mutual
theorem dp_same {K : Frag} {H H' : Hp} (s : Same H H') : ∀ (d : PyData) (v : V), Dp K H v d → Dp K H' v d
  | .none, _, h => by cases h; exact .non
  | .bool b, _, h => by cases h; exact .bl b
  | .int i, _, h => by cases h; exact .int i
  | .str x, _, h => by cases h; exact .str x
  | .list ds, _, h => by
    cases h with
    | lst h1 h2 => exact .lst (s.seq h1) (dpAll_same s ds _ h2)
  | .tuple ds, _, h => by
    cases h with
    | tup h1 h2 =>
      refine .tup ?_ (dpAll_same s ds _ h2)
      rcases h1 with (h | ⟨q, h⟩) | h
      · exact .inl (.inl (s _ _ h))
      · exact .inl (.inr ⟨q, s _ _ h⟩)
      · exact .inr h
  | .dict _, _, h => by cases h
theorem dpAll_same {K : Frag} {H H' : Hp} (s : Same H H') : ∀ (ds : List PyData) (vs : List V), DpAll K H vs ds → DpAll K H' vs ds
  | [], _, h => by cases h; exact .nil
  | d :: ds, _, h => by
    cases h with
    | cons h1 h2 => exact .cons (dp_same s d _ h1) (dpAll_same s ds _ h2)
end
end R
namespace R
open PySem L2
theorem Own.got {B H H' : Hp} {Lw : List (Addr × HO)} {p : Addr} {o : HO} (O : Own B Lw H) (s : Same H H') (h : H p = none) (h' : H' p = some o) : Own B ((p, o) :: Lw) H' := by
  have O1 := O.same s
  refine ⟨O1.st, fun q hq => ?_, fun q hq => ?_, ?_⟩
  · rcases List.mem_cons.mp hq with rfl | hq
    · exact h'
    · exact O1.ow q hq
  · rcases List.mem_cons.mp hq with rfl | hq
    · exact O.free h
    · exact O1.no q hq
  · rw [List.map_cons, List.nodup_cons]
    refine ⟨fun z => ?_, O.nd⟩
    obtain ⟨q, hq, e⟩ := List.mem_map.mp z
    exact O.out h q hq e
end R
namespace R
open PySem L2
theorem Own.butNew {B H H' : Hp} {Lw : List (Addr × HO)} {a p : Addr} {o u v : HO} (O : Own B Lw H) (i : Nat) (h : Lw[i]? = some (a, o)) (k : ∀ b v, b ≠ a → H b = some v → H' b = some v) (ha : H' a = some u) (hp : H p = none) (hv : H' p = some v) : Own B ((p, v) :: Lw.set i (a, u)) H' := by
  have O1 := O.but i h k ha
  refine ⟨O1.st, fun q hq => ?_, fun q hq => ?_, ?_⟩
  · rcases List.mem_cons.mp hq with rfl | hq
    · exact hv
    · exact O1.ow q hq
  · rcases List.mem_cons.mp hq with rfl | hq
    · exact O.free hp
    · exact O1.no q hq
  · rw [List.map_cons, List.nodup_cons]
    refine ⟨fun z => ?_, O1.nd⟩
    rw [set_map1 h] at z
    obtain ⟨q, hq, e⟩ := List.mem_map.mp z
    exact O.out hp q hq e
/-- what is new to the owner was new ahead of its changes -/
theorem Own.was {H H0 : Hp} {Lw : List (Addr × HO)} {a p : Addr} {o : HO} (O : Own (del1 H0 a) Lw H) (ha : H0 a = some o) (hl : ∃ (i : Nat) (u : HO), Lw[i]? = some (a, u)) (hp : H p = none) : H0 p = none := by
  cases e : H0 p with
  | none => rfl
  | some w =>
    by_cases z : p = a
    · obtain ⟨i, u, h⟩ := hl
      have q := O.get i h
      rw [← z, hp] at q
      cases q
    · have q := O.st p w (by unfold del1; rw [if_neg z]; exact e)
      rw [hp] at q
      cases q
end R
namespace R
open PySem L2
theorem Own.less {B H : Hp} {Lw Lw' : List (Addr × HO)} (O : Own B Lw H) (s : Lw'.Sublist Lw) : Own B Lw' H :=
  ⟨O.st, fun q hq => O.ow q (s.subset hq), fun q hq => O.no q (s.subset hq), O.nd.sublist (s.map _)⟩
theorem Own.drop {B H : Hp} {Lw : List (Addr × HO)} (O : Own B Lw H) (n : Nat) : Own B (Lw.drop n) H := O.less (List.drop_sublist n Lw)
end R
namespace R
open PySem L2
theorem Own.perm {B H : Hp} {Lw Lw' : List (Addr × HO)} (O : Own B Lw H) (p : Lw'.Perm Lw) : Own B Lw' H :=
  ⟨O.st, fun q hq => O.ow q (p.mem_iff.mp hq), fun q hq => O.no q (p.mem_iff.mp hq), ((p.map _).nodup_iff).mpr O.nd⟩
/-- what a call has laid anew, beside what is owned -/
theorem Own.join {B H H' : Hp} {Lw New : List (Addr × HO)} (O : Own B Lw H) (O2 : Own H New H') : Own B (New ++ Lw) H' := by
  refine ⟨fun a u e => O2.st _ _ (O.st _ _ e), fun q hq => ?_, fun q hq => ?_, ?_⟩
  · rcases List.mem_append.mp hq with hq | hq
    · exact O2.ow q hq
    · exact O2.st _ _ (O.ow q hq)
  · rcases List.mem_append.mp hq with hq | hq
    · exact O.free (O2.no q hq)
    · exact O.no q hq
  · rw [List.map_append, List.nodup_append]
    refine ⟨O2.nd, O.nd, fun a ha b hb e => ?_⟩
    obtain ⟨q, hq, rfl⟩ := List.mem_map.mp ha
    obtain ⟨r, hr, rfl⟩ := List.mem_map.mp hb
    have z := O.ow r hr
    rw [← e, O2.no q hq] at z
    cases z
/-- the first ones are let stand for good -/
theorem Own.fixTo {H : Hp} {Lw : List (Addr × HO)} : ∀ {New : List (Addr × HO)} {B : Hp}, Own B (New ++ Lw) H → ∃ B', Same B B' ∧ Own B' Lw H ∧ ∀ q ∈ New, B' q.1 = some q.2
  | [], B, O => ⟨B, Same.refl B, O, fun _ h => by simp at h⟩
  | (p, u) :: New, B, O => by
    have O1 : Own B ((p, u) :: (New ++ Lw)) H := O
    obtain ⟨B', s, O', h⟩ := Own.fixTo (O1.fix)
    refine ⟨B', O1.fixS.trans s, O', fun q hq => ?_⟩
    rcases List.mem_cons.mp hq with rfl | hq
    · exact s _ _ upd_same
    · exact h q hq
end R

namespace R
open PySem PySem.Spec PyProof.Rows L2
open PySem.W (Frag)
/-! ### rules of our own -/
theorem op_mulX {X : Cx} : OpR X (binaryOp .Mult) (rI IntMulOk fun i j => .int (i * j)) := opI fun _ _ _ _ _ _ _ hc q => mul_int q hc
theorem mx_l {i j : Int} (h1 : -(2 ^ 64) < i) (h2 : i < 2 ^ 64) : IntMulOk i j := CMul.ok (.inl ⟨h1, h2⟩)
theorem mx_r {i j : Int} (h1 : -(2 ^ 64) < j) (h2 : j < 2 ^ 64) : IntMulOk i j := CMul.ok (.inr ⟨h1, h2⟩)
theorem pe_globI {X : Cx} {x : Str} {i : Int} {pos : Pos} (hg : Gl X x) (hm : ∃ t, X.mg x = some (.int i t)) (hd : (x == ("__debug__" : Str)) = false := by decide) : PE X (.Name x pos) (tC (.int i)) := by
  obtain ⟨t, h⟩ := hm
  exact pe_glob hg h ⟨t, rfl⟩ hd
/-- len, tuple(..), list(..) of a list or tuple -/
def rLen (K : Frag) : List V → Hp → VK → Prop := fun xs H Q => ∃ p ys, xs = [.ref p] ∧ (SqL K H p ys ∨ SqT K H p ys) ∧ Q (.int ys.length) H
theorem call_lenR {X : Cx} : CallR X (.builtin "len") (rLen X.K) := call_len_seq
def rAbs : List V → Hp → VK → Prop := fun xs H Q => ∃ i, xs = [.int i] ∧ Q (.int (if i < 0 then -i else i)) H
theorem call_absR {X : Cx} : CallR X (.builtin "abs") rAbs := call_abs
def rTupOf (K : Frag) : List V → Hp → VK → Prop := fun xs H Q => ∃ p ys, xs = [.ref p] ∧ ((SqL K H p ys ∧ ∀ l, H l = none → Q (.ref l) (upd H l (.tup ys))) ∨ (SqT K H p ys ∧ Q (.ref p) H))
theorem call_tupR {X : Cx} : CallR X (.type "tuple") (rTupOf X.K) := call_tuple_of
def rLstOf (K : Frag) : List V → Hp → VK → Prop := fun xs H Q => ∃ p ys, xs = [.ref p] ∧ (SqL K H p ys ∨ SqT K H p ys) ∧ ∀ l, H l = none → Q (.ref l) (upd H l (.lst ys))
theorem call_lstR {X : Cx} : CallR X (.type "list") (rLstOf X.K) := call_list_of
/-! ### the steps -/
/-- a new list, a new tuple -/
def NewL (xs : List V) (H : Hp) (Q : VK) : Prop := xs.length ≤ sizeLine ∧ ∀ p, H p = none → Q (.ref p) (upd H p (.lst xs))
def NewT (xs : List V) (H : Hp) (Q : VK) : Prop := xs.length ≤ sizeLine ∧ ∀ p, H p = none → Q (.ref p) (upd H p (.tup xs))
section
variable {t u : TS} {D : Ends} {σ : L2.St} {H : Hp} {te ta tb tc : TE} {g : TG} {c d : TT} {Q : VK} {v x y : V} {i : Nat} {r r' : R2} {QB : Bool → Hp → Prop} {QL : List V → Hp → Prop} {K : Frag} {tr : TA} {tl th : TO}
theorem a_seq (h : t { D with nx := u D } σ H) : tSeq t u D σ H := h
theorem a_next (h : D.nx σ H) : tNext D σ H := h
theorem a_asg (h : te σ H fun x H1 => g x σ H1 D.nx) : tAsg te g D σ H := h
theorem a_gname {Qs : L2.St → Hp → Prop} (h : Qs (σ.set i (some v)) H) : gName i v σ H Qs := h
theorem a_drop (h : te σ H fun _ H1 => D.nx σ H1) : tDrop te D σ H := h
theorem a_ret (h : te σ H D.rt) : tRet te D σ H := h
theorem a_retN (h : D.rt .non H) : tRetN D σ H := h
theorem a_if (h : c σ H fun b H1 => if b = true then t D σ H1 else u D σ H1) : tIfS c t u D σ H := h
theorem a_var (e : σ[i]? = some (some v)) (h : Q v H) : tVar i σ H Q := ⟨v, e, h⟩
theorem a_c (h : Q v H) : tC v σ H Q := h
theorem a_op (h : ta σ H fun x H1 => tb σ H1 fun y H2 => r x y H2 Q) : tOp r ta tb σ H Q := h
theorem a_un {f : V → Hp → VK → Prop} (h : ta σ H fun x H1 => f x H1 Q) : tUn f ta σ H Q := h
theorem a_neg {n : Int} (h : Q (.int (-n)) H) : rU (fun i => .int (-i)) (.int n) H Q := ⟨n, rfl, h⟩
theorem a_test (h : te σ H fun x H' => ∃ k, x = .bl k ∧ QB k H') : tTest te σ H QB := h
theorem a_tB (h : te σ H fun x H' => ∃ k, x = .bl k ∧ QB k H') : tB te σ H QB := h
theorem a_bk {b : Bool} (h : QB b H) : ∃ k, V.bl b = .bl k ∧ QB k H := ⟨b, rfl, h⟩
theorem a_and (h : c σ H fun b H1 => if b = true then d σ H1 QB else QB false H1) : tAnd c d σ H QB := h
theorem a_or (h : c σ H fun b H1 => if b = true then QB true H1 else d σ H1 QB) : tOr c d σ H QB := h
theorem a_not (h : c σ H fun b H1 => QB (!b) H1) : tNot c σ H QB := h
theorem a_andV (h : ta σ H fun x H1 => ∃ b, x = .bl b ∧ if b = true then tb σ H1 Q else Q (.bl false) H1) : tAndV ta tb σ H Q := h
theorem a_orV (h : ta σ H fun x H1 => ∃ b, x = .bl b ∧ if b = true then Q (.bl true) H1 else tb σ H1 Q) : tOrV ta tb σ H Q := h
theorem a_notV (h : ta σ H fun x H1 => ∃ b, x = .bl b ∧ Q (.bl (!b)) H1) : tNotV ta σ H Q := h
theorem a_bv {b : Bool} {A : Bool → Prop} (h : A b) : ∃ k, V.bl b = .bl k ∧ A k := ⟨b, rfl, h⟩
theorem a_ifE (h : c σ H fun b H1 => if b = true then ta σ H1 Q else tb σ H1 Q) : tIf c ta tb σ H Q := h
theorem a_nil (h : QL [] H) : tNil σ H QL := h
theorem a_cons (h : te σ H fun x H1 => tr σ H1 fun xs H2 => QL (x :: xs) H2) : tCons te tr σ H QL := h
theorem a_tup (h : tr σ H fun xs H1 => NewT xs H1 Q) : tTup tr σ H Q := h
theorem a_lst (h : tr σ H fun xs H1 => NewL xs H1 Q) : tLst tr σ H Q := h
theorem a_cb {f : List V → Hp → VK → Prop} (h : tr σ H fun vs H1 => f vs H1 Q) : tCB f tr σ H Q := h
theorem a_call {sp : Sp} {dvs : List V} {E : XK} (h : tr σ H fun vs H1 => sp (vs ++ dvs) H1 Q E) : tCall sp dvs E tr σ H Q := h
theorem a_chain (h : ta σ H fun x H1 => tb σ H1 fun y H2 => r x y H2 fun z H3 => ∃ k, z = .bl k ∧ (if k = true then tc σ H3 fun w' H4 => r' y w' H4 Q else Q (.bl false) H3)) : tChain r r' ta tb tc σ H Q := h
theorem a_sl {f : V → Option Int → Option Int → Hp → VK → Prop} (h : te σ H fun x H1 => tl σ H1 fun l H2 => th σ H2 fun u H3 => f x l u H3 Q) : tSl f te tl th σ H Q := h
theorem a_npart {Qo : Option Int → Hp → Prop} (h : Qo none H) : tNoPart σ H Qo := h
theorem a_part {Qo : Option Int → Hp → Prop} (h : te σ H fun x H1 => ∃ i, x = .int i ∧ Qo (some i) H1) : tPart te σ H Qo := h
theorem a_ik {n : Int} {A : Int → Prop} (h : A n) : ∃ i, V.int n = .int i ∧ A i := ⟨n, rfl, h⟩
theorem a_gsub {to ti : TE} {ts : TSet} {Qs : L2.St → Hp → Prop} (h : to σ H fun o H1 => ti σ H1 fun i H2 => ts o i v H2 fun H3 => Qs σ H3) : gSub to ti ts v σ H Qs := h
theorem a_bm {T : String} {f : V → List V → Hp → VK → Prop} {to : TE} (h : to σ H fun x H1 => tyV K T x H1 ∧ tr σ H1 fun xs H2 => f x xs H2 Q) : tBM K T f to tr σ H Q := h
theorem a_bm0 {T : String} {f : V → List V → Hp → VK → Prop} {to : TE} (h : to σ H fun x H1 => tyV K T x H1 ∧ f x [] H1 Q) : tBM0 K T f to σ H Q := h
theorem a_par {a b : Nat} (h : tr σ H fun vs H1 => ∃ v w, vs = [v, w] ∧ D.nx ((σ.set a (some v)).set b (some w)) H1) : tPar a b tr D σ H := h
theorem a_par2 {A : V → V → Prop} (h : A x y) : ∃ v w, [x, y] = [v, w] ∧ A v w := ⟨x, y, rfl, h⟩
theorem a_for {wi : TI} (h : wi σ H fun J H1 => ∃ W : Nat → Nat → L2.St → Hp → Prop, (∃ m, W 0 m σ H1) ∧ ∀ i m σ H, W i m σ H →
  (J.stop i H ∧ D.nx σ H) ∨ (J.go i H ∧ ∃ N : L2.St → Hp → Prop, (∀ σ' H', N σ' H' → ∃ m', m' < m ∧ W (i + 1) m' σ' H') ∧ ∀ x H', J.yld i H x H' → g x σ H' fun σ2 H2 => t { D with nx := N, ct := N, bk := D.nx } σ2 H2)) : tFor wi g t D σ H := h
theorem a_rng1 {RR : It → Hp → Prop} (h : tr σ H fun vs H1 => ∃ j : Int, vs = [.int j] ∧ -(2 ^ 62) ≤ j ∧ j < 2 ^ 62 ∧ RR (Itr 0 j.toNat) H1) : iRng1 tr σ H RR := h
theorem a_rng1' {j : Int} {A : Int → Prop} (h1 : -(2 ^ 62) ≤ j) (h2 : j < 2 ^ 62) (h : A j) : ∃ k : Int, [V.int j] = [.int k] ∧ -(2 ^ 62) ≤ k ∧ k < 2 ^ 62 ∧ A k := ⟨j, rfl, h1, h2, h⟩
theorem a_rng2 {RR : It → Hp → Prop} (h : tr σ H fun vs H1 => ∃ i j : Int, vs = [.int i, .int j] ∧ (-(2 ^ 62) ≤ i ∧ i < 2 ^ 62 ∧ -(2 ^ 62) ≤ j ∧ j < 2 ^ 62) ∧ RR (Itr i (j - i).toNat) H1) : iRng2 tr σ H RR := h
theorem a_rng2' {i j : Int} {A : Int → Int → Prop} (h1 : -(2 ^ 62) ≤ i ∧ i < 2 ^ 62 ∧ -(2 ^ 62) ≤ j ∧ j < 2 ^ 62) (h : A i j) : ∃ a b : Int, [V.int i, V.int j] = [.int a, .int b] ∧ (-(2 ^ 62) ≤ a ∧ a < 2 ^ 62 ∧ -(2 ^ 62) ≤ b ∧ b < 2 ^ 62) ∧ A a b := ⟨i, j, rfl, h1, h⟩
theorem a_lc {wi : TI} {tt : TT} {vs : List Nat} (h : wi σ H fun J H1 => ∀ D, H1 D = none → ∃ W : Nat → Nat → Hp → Prop, (∃ m, W 0 m (upd H1 D (.lst []))) ∧ ∀ i m H, W i m H →
  (J.stop i H ∧ Q (.ref D) H) ∨ (J.go i H ∧ ∃ Nx : Hp → Prop, (∀ H', Nx H' → ∃ m', m' < m ∧ W (i + 1) m' H') ∧ ∀ x H', J.yld i H x H' → g x (wipe σ vs) H' fun σ2 H2 => wipe σ2 vs = wipe σ vs ∧ tt σ2 H2 fun b H3 =>
    if b = true then te σ2 H3 fun y H4 => ∃ acc, H4 D = some (.lst acc) ∧ acc.length < sizeLine ∧ Nx (upd H4 D (.lst (acc ++ [y]))) else Nx H3)) : tLc wi g tt te vs σ H Q := h
theorem a_gtup {n : Nat} {gs : TGs} {p : Addr} {xs : List V} {Qs : L2.St → Hp → Prop} (hs : SqT K H p xs) (hl : xs.length = n) (h : gs xs σ H Qs) : gTup K n gs (.ref p) σ H Qs := ⟨p, xs, rfl, hs, hl, h⟩
theorem a_gcons {gs : TGs} {vs : List V} {Qs : L2.St → Hp → Prop} (h : g v σ H fun σ' H' => gs vs σ' H' Qs) : gCons g gs (v :: vs) σ H Qs := ⟨v, vs, rfl, h⟩
theorem a_gnil {Qs : L2.St → Hp → Prop} (h : Qs σ H) : gNil [] σ H Qs := ⟨rfl, h⟩
theorem a_yes (h : QB true H) : tYes σ H QB := h
-- by values
theorem a_I0 {f : Int → Int → V} {m n : Int} (h : Q (f m n) H) : rI0 f (.int m) (.int n) H Q := ⟨m, n, rfl, rfl, h⟩
theorem a_I {C : Int → Int → Prop} {f : Int → Int → V} {m n : Int} (hc : C m n) (h : Q (f m n) H) : rI C f (.int m) (.int n) H Q := ⟨m, n, rfl, rfl, hc, h⟩
theorem a_eqI {m n : Int} (h : Q (.bl (decide (m = n))) H) : rEq (.int m) (.int n) H Q := ⟨rfl, by
  have e : decide (V.int m = V.int n) = decide (m = n) := by rw [dec_int, Bool.beq_eq_decide_eq]
  rw [e]; exact h⟩
theorem a_neI {m n : Int} (h : Q (.bl (!decide (m = n))) H) : rNe (.int m) (.int n) H Q := ⟨rfl, by
  have e : decide (V.int m = V.int n) = decide (m = n) := by rw [dec_int, Bool.beq_eq_decide_eq]
  rw [e]; exact h⟩
theorem a_isN1 (h : Q (.bl true) H) : rIsN .non .non H Q := ⟨rfl, h⟩
theorem a_isN0 (hx : x ≠ .non) (h : Q (.bl false) H) : rIsN x .non H Q := ⟨rfl, by rw [decide_eq_false hx]; exact h⟩
theorem a_notN1 (h : Q (.bl false) H) : rNotN .non .non H Q := ⟨rfl, h⟩
theorem a_notN0 (hx : x ≠ .non) (h : Q (.bl true) H) : rNotN x .non H Q := ⟨rfl, by rw [decide_eq_false hx]; exact h⟩
theorem a_ixL {p : Addr} {xs : List V} {n : Int} (hs : SqL K H p xs) (ha : atI xs n = some v) (h : Q v H) : rIxL K (.ref p) (.int n) H Q := ⟨p, xs, n, v, rfl, rfl, hs, ha, h⟩
theorem a_ixT {p : Addr} {xs : List V} {n : Int} (hs : SqT K H p xs) (ha : atI xs n = some v) (h : Q v H) : rIxT K (.ref p) (.int n) H Q := ⟨p, xs, n, v, rfl, rfl, hs, ha, h⟩
theorem a_setL {B : Hp} {Lw : List (Addr × HO)} {p : Addr} {xs : List V} {n : Int} {j : Nat} {Qh : Hp → Prop} (O : Own B Lw H) (i : Nat) (h : Lw[i]? = some (p, .lst xs)) (hj : ixN xs.length n = some j)
    (q : ∀ H', Own B (Lw.set i (p, .lst (xs.set j v))) H' → Qh H') : rSetL (.ref p) (.int n) v H Qh := ⟨p, xs, n, j, rfl, rfl, O.get i h, hj, q _ (O.put i h)⟩
theorem a_app {B : Hp} {Lw : List (Addr × HO)} {p : Addr} {xs : List V} (O : Own B Lw H) (i : Nat) (h : Lw[i]? = some (p, .lst xs)) (hl : xs.length ≤ 1000000)
    (q : ∀ H', Own B (Lw.set i (p, .lst (xs ++ [y]))) H' → Q .non H') : rAppend (.ref p) [y] H Q := ⟨p, xs, y, rfl, rfl, O.get i h, Nat.lt_of_le_of_lt hl (by decide), q _ (O.put i h)⟩
theorem a_mkL {B : Hp} {Lw : List (Addr × HO)} {xs : List V} (O : Own B Lw H) (hl : xs.length ≤ 1000000) (q : ∀ p H', H p = none → Own B ((p, .lst xs) :: Lw) H' → Q (.ref p) H') : NewL xs H Q :=
  ⟨Nat.le_trans hl (by decide), fun p hp => q p _ hp (O.new hp)⟩
theorem a_mkT {B : Hp} {Lw : List (Addr × HO)} {xs : List V} (O : Own B Lw H) (hl : xs.length ≤ 1000000) (q : ∀ p H', H p = none → Own B ((p, .tup xs) :: Lw) H' → Q (.ref p) H') : NewT xs H Q :=
  ⟨Nat.le_trans hl (by decide), fun p hp => q p _ hp (O.new hp)⟩
theorem a_int1 {n : Int} {A : Int → Prop} {C : Prop} (h : A n) : (∃ i, [V.int n] = [V.int i] ∧ A i) ∨ C := .inl ⟨n, rfl, h⟩
theorem a_len {q : Addr} {ys : List V} (hs : SqL K H q ys ∨ SqT K H q ys) (h : Q (.int ys.length) H) : rLen K [V.ref q] H Q := ⟨q, ys, rfl, hs, h⟩
theorem a_sum {a : Addr} {ns : List Int} (hs : SqL K H a (ns.map V.int)) (h : Q (.int ns.sum) H) : rSum K [V.ref a] H Q := ⟨a, ns, rfl, hs, h⟩
theorem a_tupL {B : Hp} {Lw : List (Addr × HO)} {a : Addr} {xs : List V} (O : Own B Lw H) (hs : SqL K H a xs) (h : ∀ p H', H p = none → Own B ((p, .tup xs) :: Lw) H' → Q (.ref p) H') : rTupOf K [V.ref a] H Q := ⟨a, xs, rfl, .inl ⟨hs, fun l hl => h l _ hl (O.new hl)⟩⟩
theorem a_tupT {a : Addr} {xs : List V} (hs : SqT K H a xs) (h : Q (.ref a) H) : rTupOf K [V.ref a] H Q := ⟨a, xs, rfl, .inr ⟨hs, h⟩⟩
theorem a_lstO {B : Hp} {Lw : List (Addr × HO)} {a : Addr} {xs : List V} (O : Own B Lw H) (hs : SqL K H a xs ∨ SqT K H a xs) (h : ∀ p H', H p = none → Own B ((p, .lst xs) :: Lw) H' → Q (.ref p) H') : rLstOf K [V.ref a] H Q := ⟨a, xs, rfl, hs, fun l hl => h l _ hl (O.new hl)⟩
theorem a_pow {m n : Int} {k : Nat} (hn : n = (k : Int)) (hk : k ≤ 1000000) (hm : m.natAbs < 2 ^ 64) (h : Q (.int (m ^ k)) H) : rI CPow (fun i j => .int (i ^ j.toNat)) (.int m) (.int n) H Q := by
  subst hn
  exact ⟨m, k, rfl, rfl, ⟨by omega, by omega, hm⟩, h⟩
theorem a_abs {n : Int} (h : Q (.int (n.natAbs : Int)) H) : rAbs [V.int n] H Q := ⟨n, rfl, by
  have e : (if n < 0 then -n else n) = (n.natAbs : Int) := by split <;> omega
  rw [e]; exact h⟩
-- tests
theorem a_tt {A B : Prop} (h : A) : if true = true then A else B := by rw [if_pos rfl]; exact h
theorem a_ff {A B : Prop} (h : B) : if false = true then A else B := by rw [if_neg Bool.false_ne_true]; exact h
theorem a_nt {A B : Prop} (h : B) : if (!true) = true then A else B := a_ff h
theorem a_nf {A B : Prop} (h : A) : if (!false) = true then A else B := a_tt h
theorem a_itT {p A B : Prop} [Decidable p] (hp : p) (h : A) : if decide p = true then A else B := by rw [if_pos (decide_eq_true hp)]; exact h
theorem a_itF {p A B : Prop} [Decidable p] (hp : ¬ p) (h : B) : if decide p = true then A else B := by rw [if_neg (by rw [decide_eq_false hp]; decide)]; exact h
theorem a_it2 {p A B : Prop} [Decidable p] (h1 : p → A) (h2 : ¬ p → B) : if decide p = true then A else B := by
  by_cases hp : p
  · exact a_itT hp (h1 hp)
  · exact a_itF hp (h2 hp)
theorem a_niT {p A B : Prop} [Decidable p] (hp : p) (h : B) : if (!decide p) = true then A else B := by rw [decide_eq_true hp]; exact a_nt h
theorem a_niF {p A B : Prop} [Decidable p] (hp : ¬ p) (h : A) : if (!decide p) = true then A else B := by rw [decide_eq_false hp]; exact a_nf h
theorem a_ni2 {p A B : Prop} [Decidable p] (h1 : p → B) (h2 : ¬ p → A) : if (!decide p) = true then A else B := by
  by_cases hp : p
  · exact a_niT hp (h1 hp)
  · exact a_niF hp (h2 hp)
theorem a_itB {b : Bool} {A B : Prop} (h1 : b = true → A) (h2 : b = false → B) : if b = true then A else B := by
  cases b with
  | true => exact a_tt (h1 rfl)
  | false => exact a_ff (h2 rfl)
theorem a_niB {b : Bool} {A B : Prop} (h1 : b = true → B) (h2 : b = false → A) : if (!b) = true then A else B := by
  cases b with
  | true => exact a_nt (h1 rfl)
  | false => exact a_nf (h2 rfl)
theorem a_cT {p q A B : Prop} [Decidable p] [Decidable q] (hp : p) (hq : q) (h : A) : if (decide p && decide q) = true then A else B := by rw [decide_eq_true hp, decide_eq_true hq]; exact a_tt h
theorem a_cF {p q A B : Prop} [Decidable p] [Decidable q] (hp : ¬ (p ∧ q)) (h : B) : if (decide p && decide q) = true then A else B := by
  by_cases h1 : p
  · rw [decide_eq_true h1, decide_eq_false (fun z => hp ⟨h1, z⟩)]; exact a_ff h
  · rw [decide_eq_false h1]; exact a_ff h
theorem a_ncT {p q A B : Prop} [Decidable p] [Decidable q] (hp : p) (hq : q) (h : B) : if (!(decide p && decide q)) = true then A else B := by rw [decide_eq_true hp, decide_eq_true hq]; exact a_nt h
theorem a_isiI {i : Int} (h : Q (.bl true) H) : rIsi K [.int i, .ty "int"] H Q := ⟨_, _, .type "int", .type "int", true, rfl, .ty _, .base (.int i), kit_ty (by decide +kernel), h⟩
theorem a_isiB {i : Int} (h : Q (.bl false) H) : rIsi K [.int i, .ty "bool"] H Q := ⟨_, _, .type "int", .type "bool", false, rfl, .ty _, .base (.int i), kit_ty (by decide +kernel), h⟩
end
theorem divW {m n : Int} (h : 0 < n) (h' : n < 10 ^ 60) : CDivW m n := wide_div (b := 200) h (by
  have q : (10 : Int) ^ 60 < 2 ^ 200 := by decide
  have r : n < 2 ^ 200 := Int.lt_trans h' q
  omega) (by decide) (by decide)
theorem at0 {α : Type} {xs : List α} {n : Int} {j : Nat} {v : α} (e : n = (j : Int)) (h : xs[j]? = some v) : atI xs n = some v := by
  rw [e]; exact atI_nat h
end R
namespace R
open PySem PySem.Spec PyProof.Rows L2
theorem mx_w {i j : Int} (a b : Nat) (ha : i.natAbs < 2 ^ a) (hb : j.natAbs < 2 ^ b) (h0 : 0 < a := by decide) (h1 : 0 < b := by decide) (h : a + b ≤ 1000000 := by decide) : IntMulOk i j := (wide_mul ha hb h0 h1 h).ok
end R
namespace R
open PySem PySem.Spec PyProof.Rows L2
open PySem.W (Frag)
section
variable {K : Frag} {B H : Hp} {Lw : List (Addr × HO)} {p : Addr} {z : Int} {Q : VK}
/-- an item of a written list at a drawn place -/
theorem a_ixV {xs : List V} (O : Own B Lw H) (i : Nat) (h : Lw[i]? = some (p, .lst xs)) (h0 : 0 ≤ z) (h1 : z < xs.length) (q : ∀ v, v ∈ xs → Q v H) : rIxL K (.ref p) (.int z) H Q := by
  have e : z.toNat < xs.length := by omega
  exact a_ixL (O.sq i h) (at0 (j := z.toNat) (by omega) (List.getElem?_eq_getElem e)) (q _ (List.getElem_mem e))
theorem a_ixM {ms : List Int} (O : Own B Lw H) (i : Nat) (h : Lw[i]? = some (p, .lst (ms.map V.int))) (h0 : 0 ≤ z) (h1 : z < ms.length) (q : ∀ m, m ∈ ms → Q (.int m) H) : rIxL K (.ref p) (.int z) H Q :=
  a_ixV O i h h0 (by rw [List.length_map]; exact h1) fun v hv => by
    obtain ⟨m, hm, rfl⟩ := List.mem_map.mp hv
    exact q m hm
end
end R
namespace R
open PySem PySem.Spec PyProof.Rows L2
open PySem.W (Frag)
section
variable {K : Frag} {B H : Hp} {Lw : List (Addr × HO)} {p : Addr} {z : Int} {Q : VK}
/-- an item of a list of ints -/
theorem a_ixI {ms : List Int} (O : Own B Lw H) (i : Nat) (h : Lw[i]? = some (p, .lst (ms.map V.int))) (h0 : 0 ≤ z) (h1 : z.toNat < ms.length) (q : Q (.int (ms[z.toNat])) H) : rIxL K (.ref p) (.int z) H Q :=
  a_ixL (O.sq i h) (at0 (j := z.toNat) (by omega) (by rw [List.getElem?_map, List.getElem?_eq_getElem h1]; rfl)) q
end
end R
namespace R
open PySem PySem.Spec PyProof.Rows L2
/-- an if whose test comes out one way on all ways -/
theorem a_ifNo {c : TT} {t u : TS} {D : Ends} {σ : L2.St} {H : Hp} (hc : ∀ QB : Bool → Hp → Prop, QB false H → c σ H QB) (h : u D σ H) : tIfS c t u D σ H := hc _ (a_ff h)
theorem a_ifYes {c : TT} {t u : TS} {D : Ends} {σ : L2.St} {H : Hp} (hc : ∀ QB : Bool → Hp → Prop, QB true H → c σ H QB) (h : t D σ H) : tIfS c t u D σ H := hc _ (a_tt h)
theorem a_ifNoH {c : TT} {t u : TS} {D : Ends} {σ : L2.St} {H : Hp} (P : Hp → Prop) (hc : ∀ QB : Bool → Hp → Prop, (∀ H', P H' → QB false H') → c σ H QB) (h : ∀ H', P H' → u D σ H') : tIfS c t u D σ H := hc _ fun H' p => a_ff (h H' p)
end R
namespace R
open PySem PySem.Spec PyProof.Rows L2
theorem q_F {p : Prop} [Decidable p] {QB : Bool → Hp → Prop} {H : Hp} (hq : QB false H) (hp : ¬ p) : QB (decide p) H := by rw [decide_eq_false hp]; exact hq
theorem q_T {p : Prop} [Decidable p] {QB : Bool → Hp → Prop} {H : Hp} (hq : QB true H) (hp : p) : QB (decide p) H := by rw [decide_eq_true hp]; exact hq
theorem q_nT {p : Prop} [Decidable p] {QB : Bool → Hp → Prop} {H : Hp} (hq : QB false H) (hp : p) : QB (!decide p) H := by rw [decide_eq_true hp]; exact hq
theorem q_nF {p : Prop} [Decidable p] {QB : Bool → Hp → Prop} {H : Hp} (hq : QB true H) (hp : ¬ p) : QB (!decide p) H := by rw [decide_eq_false hp]; exact hq
end R
namespace R
open PySem PySem.Spec PyProof.Rows L2
/-- while: W by a measure -/
theorem a_while {c : TT} {tb : TS} {D : Ends} {σ : L2.St} {H : Hp} (W : Nat → L2.St → Hp → Prop) (h0 : ∃ m, W m σ H)
    (hs : ∀ m σ H, W m σ H → c σ H fun b H1 => if b = true then (∃ N : L2.St → Hp → Prop, (∀ σ' H', N σ' H' → ∃ m', m' < m ∧ W m' σ' H') ∧ tb { D with nx := N, ct := N, bk := D.nx } σ H1) else D.nx σ H1) : tWhile c tb D σ H := ⟨W, h0, hs⟩
theorem a_turn {tb : TS} {D : Ends} {σ : L2.St} {H1 : Hp} {m : Nat} {W : Nat → L2.St → Hp → Prop} (h : tb { D with nx := fun σ' H' => ∃ m', m' < m ∧ W m' σ' H', ct := fun σ' H' => ∃ m', m' < m ∧ W m' σ' H', bk := D.nx } σ H1) :
    ∃ N : L2.St → Hp → Prop, (∀ σ' H', N σ' H' → ∃ m', m' < m ∧ W m' σ' H') ∧ tb { D with nx := N, ct := N, bk := D.nx } σ H1 := ⟨_, fun _ _ h => h, h⟩
end R
namespace R
open PySem PySem.Spec PyProof.Rows L2
open PySem.W (Frag)
section
variable {K : Frag} {tr : TA} {tl : TE} {σ : L2.St} {H : Hp} {RR : It → Hp → Prop}
theorem a_enum {tr : TA} (h : tr σ H fun vs H1 => ∃ a xs, vs = [.ref a] ∧ SqL K H1 a xs ∧ RR (Ite K a) H1) : iEnum K tr σ H RR := h
theorem a_iL (h : tl σ H fun x H1 => ∃ a, x = .ref a ∧ (∃ xs, SqL K H1 a xs) ∧ RR (Itl K a) H1) : iList K tl σ H RR := h
theorem a_iT (h : tl σ H fun x H1 => ∃ a, x = .ref a ∧ (∃ xs, SqT K H1 a xs) ∧ RR (Itt K a) H1) : iTup K tl σ H RR := h
end
end R
namespace R
open PySem PySem.Spec PyProof.Rows L2
open PySem.W (Frag)
section
variable {K : Frag} {te : TE} {σ : L2.St} {H B : Hp} {Q : VK} {Lw : List (Addr × HO)} {a : Addr} {xs : List V}
def rRev (K : Frag) : V → Hp → VK → Prop := fun x H Q => ∃ a xs, x = .ref a ∧ SqL K H a xs ∧ ∀ p, H p = none → Q (.ref p) (upd H p (.lst xs.reverse))
theorem a_rev (h : te σ H fun x H1 => rRev K x H1 Q) : tRevL K te σ H Q := h
theorem a_revL (O : Own B Lw H) (hs : SqL K H a xs) (q : ∀ p H', H p = none → Own B ((p, .lst xs.reverse) :: Lw) H' → Q (.ref p) H') : rRev K (.ref a) H Q := ⟨a, xs, rfl, hs, fun p hp => q p _ hp (O.new hp)⟩
end
end R
namespace R
open PySem PySem.Spec PyProof.Rows L2
open PySem.W (Frag)
/-! ### within a comprehension: the frag named -/
theorem pe_fldK {X : Cx} {K : Frag} {e : Expr} {f : Str} {pos : Pos} {ta : TE} (he : PE X e ta) (hb : attributeBase e f X.env (eval e X.env) = eval e X.env) (hK : X.K = K := by rfl) : PE X (.Attribute e f pos) (tFld K ta f) := by
  subst hK; exact pe_fld he hb
theorem pg_tupK {X : Cx} {K : Frag} {pos : Pos} {es : List Expr} {k : Nat} {t : TGs} {n : Nat} (hc : X.calm = true) (h : PGs X es t) (hK : X.K = K := by rfl) (hn : (assignEach es X.env).length = n := by rfl) (hst : (assignEach es X.env).findIdx? (·.1) = none := by rfl) : PG X (.Tuple es k pos) (gTup K n t) := by
  subst hK; exact pg_tup hc h hn hst
end R

namespace R
/-! ## the first one of a row -/
theorem find_more {α : Type} {g : Nat → Option α} {i : Nat} (h : (List.range i).findSome? g = none) (e : g i = none) : (List.range (i + 1)).findSome? g = none := by
  rw [List.range_succ, List.findSome?_append, h]
  simp [e]
theorem find_hit {α : Type} {g : Nat → Option α} {i : Nat} {x : α} (h : (List.range i).findSome? g = none) (e : g i = some x) : ∀ n : Nat, i < n → (List.range n).findSome? g = some x := by
  intro n
  induction n with
  | zero => intro z; omega
  | succ n ih =>
    intro z
    rw [List.range_succ, List.findSome?_append]
    by_cases q : i = n
    · rw [← q, h]; simp [e]
    · rw [ih (by omega)]; rfl
theorem pow_bits {b : Int} {n m : Nat} (h0 : 0 ≤ b) (h1 : b ≤ 16) (hn : n ≤ m) : (b ^ n).natAbs < 2 ^ (4 * m + 1) := by
  rw [Int.natAbs_pow]
  have e1 : b.natAbs ≤ 16 := by omega
  have e2 : b.natAbs ^ n ≤ 16 ^ n := Nat.pow_le_pow_left e1 n
  have e3 : (16 : Nat) ^ n = 2 ^ (4 * n) := by rw [Nat.pow_mul]
  have e4 : (2 : Nat) ^ (4 * n) ≤ 2 ^ (4 * m) := Nat.pow_le_pow_right (by decide) (by omega)
  have e5 : (2 : Nat) ^ (4 * m + 1) = 2 ^ (4 * m) * 2 := Nat.pow_succ ..
  have e6 : 0 < (2 : Nat) ^ (4 * m) := Nat.pow_pos (by decide)
  omega
end R
namespace R
theorem find_ext {α : Type} {g : Nat → Option α} {n : Nat} : ∀ m : Nat, n ≤ m → (∀ i, n ≤ i → i < m → g i = none) → (List.range m).findSome? g = (List.range n).findSome? g := by
  intro m
  induction m with
  | zero => intro h _; rw [Nat.le_zero.mp h]
  | succ m ih =>
    intro h k
    by_cases e : n = m + 1
    · rw [e]
    · rw [List.range_succ, List.findSome?_append, ih (by omega) fun i h1 h2 => k i h1 (by omega)]
      simp [k m (by omega) (by omega)]
theorem find_same {α : Type} {g g' : Nat → Option α} : ∀ n : Nat, (∀ i, i < n → g i = g' i) → (List.range n).findSome? g = (List.range n).findSome? g' := by
  intro n
  induction n with
  | zero => intro _; rfl
  | succ n ih =>
    intro k
    rw [List.range_succ, List.findSome?_append, List.findSome?_append, ih fun i h => k i (by omega)]
    simp [k n (by omega)]
/-- the first hit: all of the rows ahead of i, and j of row i -/
def fst2 (h : Nat → Nat → Option Int) (B i j : Nat) : Option (Nat × Int) :=
  ((List.range i).findSome? fun p => ((List.range B).findSome? (h p)).map fun x => (p, x)).or (((List.range j).findSome? (h i)).map fun x => (i, x))
theorem fst2_yes {h : Nat → Nat → Option Int} {B i j : Nat} {x : Int} (e : h i j = some x) : fst2 h B i (j + 1) = (fst2 h B i j).or (some (i, x)) := by
  unfold fst2
  rw [List.range_succ, List.findSome?_append]
  cases (List.range i).findSome? fun p => ((List.range B).findSome? (h p)).map fun x => (p, x) <;> cases (List.range j).findSome? (h i) <;> simp [e]
theorem fst2_no {h : Nat → Nat → Option Int} {B i j : Nat} (e : h i j = none) : fst2 h B i (j + 1) = fst2 h B i j := by
  unfold fst2
  rw [List.range_succ, List.findSome?_append]
  cases (List.range j).findSome? (h i) <;> simp [e]
theorem fst2_row {h : Nat → Nat → Option Int} {B i : Nat} : fst2 h B (i + 1) 0 = fst2 h B i B := by
  unfold fst2
  rw [List.range_succ, List.findSome?_append]
  simp
theorem fst2_all {h : Nat → Nat → Option Int} {B i : Nat} : fst2 h B i 0 = (List.range i).findSome? fun p => ((List.range B).findSome? (h p)).map fun x => (p, x) := by
  unfold fst2
  simp
theorem head_snoc {α : Type} (ps : List α) (x : α) : (ps ++ [x]).head? = ps.head?.or (some x) := by
  cases ps <;> rfl
end R

namespace R
open PySem PySem.Spec PyProof.Rows L2
open PySem.W (Frag)
/-! ## lists and tuples as data -/
theorem canAll_map {α : Type} {f : α → PyData} (h : ∀ a, (f a).canLay0 = true) : ∀ l : List α, PyData.canLayAll0 (l.map f) = true
  | [] => rfl
  | a :: l => by
    show ((f a).canLay0 && PyData.canLayAll0 (l.map f)) = true
    rw [h a, canAll_map h l]; rfl
theorem depthAll_map {α : Type} {f : α → PyData} {n : Nat} (h : ∀ a, (f a).depth ≤ n) : ∀ l : List α, PyData.depthAll (l.map f) ≤ n
  | [] => Nat.zero_le _
  | a :: l => by
    have h1 := h a
    have h2 := depthAll_map h l
    show max (f a).depth (PyData.depthAll (l.map f)) ≤ n
    omega
theorem dpAll_map {α : Type} {K : Frag} {H : Hp} {g : α → V} {f : α → PyData} (h : ∀ a, Dp K H (g a) (f a)) : ∀ l : List α, DpAll K H (l.map g) (l.map f)
  | [] => .nil
  | a :: l => .cons (h a) (dpAll_map h l)
theorem shaped_of {d : PyData} (h1 : d.canLay0 = true) (h2 : d.depth ≤ 64) : SeqAt.shaped d = true := by
  unfold SeqAt.shaped
  rw [h1, decide_eq_true h2]; rfl
/-- a list of ints -/
def pyL (ns : List Int) : PyData := .list (ns.map .int)
def pyT (ns : List Int) : PyData := .tuple (ns.map .int)
theorem can_pyL (ns : List Int) : (pyL ns).canLay0 = true := canAll_map (fun _ => rfl) ns
theorem can_pyT (ns : List Int) : (pyT ns).canLay0 = true := canAll_map (fun _ => rfl) ns
theorem dep_pyL (ns : List Int) : (pyL ns).depth ≤ 1 := by
  have h := depthAll_map (f := PyData.int) (n := 0) (fun _ => Nat.le_refl 0) ns
  show PyData.depthAll (ns.map .int) + 1 ≤ 1
  omega
theorem dep_pyT (ns : List Int) : (pyT ns).depth ≤ 1 := by
  have h := depthAll_map (f := PyData.int) (n := 0) (fun _ => Nat.le_refl 0) ns
  show PyData.depthAll (ns.map .int) + 1 ≤ 1
  omega
section
variable {K : Frag} {H : Hp} {x y : V} {Q : VK} {d : PyData} {a b : Addr} {ns : List Int}
theorem dp_pyL (h : SqL K H a (ns.map V.int)) : Dp K H (.ref a) (pyL ns) := .lst h (dpAll_map (fun i => .int i) ns)
theorem dp_pyT (h : SqT K H a (ns.map V.int)) : Dp K H (.ref a) (pyT ns) := .tup h (dpAll_map (fun i => .int i) ns)
theorem a_eqD (hx : Dp K H x d) (hy : Dp K H y d) (h1 : d.canLay0 = true) (h2 : d.depth ≤ 64) (h : Q (.bl true) H) : rEqD K x y H Q :=
  ⟨d, d, hx, hy, shaped_of h1 h2, shaped_of h1 h2, by rw [SeqAt.eqv_refl d h1]; exact h⟩
theorem a_neD (hx : Dp K H x d) (hy : Dp K H y d) (h1 : d.canLay0 = true) (h2 : d.depth ≤ 64) (h : Q (.bl false) H) : rNeD K x y H Q :=
  ⟨d, d, hx, hy, shaped_of h1 h2, shaped_of h1 h2, by rw [SeqAt.eqv_refl d h1]; exact h⟩
theorem a_eqL (hx : SqL K H a (ns.map V.int)) (hy : SqL K H b (ns.map V.int)) (h : Q (.bl true) H) : rEqD K (.ref a) (.ref b) H Q := a_eqD (dp_pyL hx) (dp_pyL hy) (can_pyL ns) (Nat.le_trans (dep_pyL ns) (by decide)) h
theorem a_neL (hx : SqL K H a (ns.map V.int)) (hy : SqL K H b (ns.map V.int)) (h : Q (.bl false) H) : rNeD K (.ref a) (.ref b) H Q := a_neD (dp_pyL hx) (dp_pyL hy) (can_pyL ns) (Nat.le_trans (dep_pyL ns) (by decide)) h
theorem a_eqT (hx : SqT K H a (ns.map V.int)) (hy : SqT K H b (ns.map V.int)) (h : Q (.bl true) H) : rEqD K (.ref a) (.ref b) H Q := a_eqD (dp_pyT hx) (dp_pyT hy) (can_pyT ns) (Nat.le_trans (dep_pyT ns) (by decide)) h
theorem a_neT (hx : SqT K H a (ns.map V.int)) (hy : SqT K H b (ns.map V.int)) (h : Q (.bl false) H) : rNeD K (.ref a) (.ref b) H Q := a_neD (dp_pyT hx) (dp_pyT hy) (can_pyT ns) (Nat.le_trans (dep_pyT ns) (by decide)) h
end
end R
namespace R
open PySem PySem.Spec PyProof.Rows L2
open PySem.W (Frag)
theorem dpAll_snoc {K : Frag} {H : Hp} {v : V} {d : PyData} (h : Dp K H v d) : ∀ {vs : List V} {ds : List PyData}, DpAll K H vs ds → DpAll K H (vs ++ [v]) (ds ++ [d])
  | _, _, .nil => .cons h .nil
  | _, _, .cons h1 h2 => .cons h1 (dpAll_snoc h h2)
theorem dpAll_len {K : Frag} {H : Hp} : ∀ {vs : List V} {ds : List PyData}, DpAll K H vs ds → vs.length = ds.length
  | _, _, .nil => rfl
  | _, _, .cons _ h2 => by rw [List.length_cons, List.length_cons, dpAll_len h2]
/-- a pair of ints -/
def pyP (p : Nat × Int) : PyData := .tuple [.int p.1, .int p.2]
theorem can_pyP (p : Nat × Int) : (pyP p).canLay0 = true := rfl
theorem dep_pyP (p : Nat × Int) : (pyP p).depth ≤ 1 := Nat.le_refl 1
theorem dp_pyP {K : Frag} {H : Hp} {a : Addr} {p : Nat × Int} (h : SqT K H a [.int p.1, .int p.2]) : Dp K H (.ref a) (pyP p) := .tup h (.cons (.int _) (.cons (.int _) .nil))
/-- != by data that is not the same -/
theorem a_neD' {K : Frag} {H : Hp} {x y : V} {Q : VK} {d e : PyData} (hx : Dp K H x d) (hy : Dp K H y e) (h1 : d.canLay0 = true) (h2 : d.depth ≤ 64) (h3 : e.canLay0 = true) (h4 : e.depth ≤ 64) (n : PyData.eqv d e = false) (h : Q (.bl true) H) : rNeD K x y H Q :=
  ⟨d, e, hx, hy, shaped_of h1 h2, shaped_of h3 h4, by rw [n]; exact h⟩
theorem a_eqD' {K : Frag} {H : Hp} {x y : V} {Q : VK} {d e : PyData} (hx : Dp K H x d) (hy : Dp K H y e) (h1 : d.canLay0 = true) (h2 : d.depth ≤ 64) (h3 : e.canLay0 = true) (h4 : e.depth ≤ 64) (n : PyData.eqv d e = false) (h : Q (.bl false) H) : rEqD K x y H Q :=
  ⟨d, e, hx, hy, shaped_of h1 h2, shaped_of h3 h4, by rw [n]; exact h⟩
end R

/-! ## enumerate(a tuple) -/
namespace PySem
namespace EnT
open PySem.W PySem.Calls PyProof.Rows
set_option maxHeartbeats 4000000
theorem meets_new1 {src : Value} {itO : Obj} {Hx : Heap → Prop} (B : Begins src itO Hx) :
    Meets (Builtin.«enumerate.__new__» ⟨[.type "enumerate", src], []⟩) (fun _ R s => Hx s.heap ∧
      R (.ok (.ret (.ref (s.heap.push itO).objs.size))) { s with heap := (s.heap.push itO).push { cls := .type "enumerate", data := .fields #[.none, .bool false, .ref s.heap.objs.size, rawInt 0, .none, .none] } }) := by
  refine .of_wp fun prog w A R s h => ?_
  obtain ⟨hp0, gn, dr, tks, osx⟩ := s
  obtain ⟨hH, hR⟩ := h
  have hsub := sub_enumerate
  have stp : ∀ {A' : Around} {E : Value → Shared → Prop} {Q : Value → Shared → Prop}, Q (.ref hp0.objs.size) ⟨hp0.push itO, gn, dr, tks, osx⟩ →
      wpAny (model prog w) A' (pyIter src) Q E ⟨hp0, gn, dr, tks, osx⟩ := fun q => B.iter prog w _ _ ⟨hp0, gn, dr, tks, osx⟩ _ hH q
  wp_walk using stp
  refine wpAny_stack_any fun st => wpAny_pure ?_
  split
  · rename_i c _ _ _ _ _
    cases (c == Value.type "enumerate") <;> (wp_walk using stp; exact ⟨_, rfl, hR⟩)
  · wp_walk using stp
    exact ⟨_, rfl, hR⟩
theorem call_new1 {prog : Program} {w : World} {A : Around} {E : Value → Shared → Prop} {s : Shared} {src : Value} {itO : Obj} {Hx : Heap → Prop} {Q : Value → Shared → Prop} (B : Begins src itO Hx) (hH : Hx s.heap)
    (h : ∀ h', IsEnum h' (s.heap.objs.size + 1) s.heap.objs.size 0 .none → h'.get? s.heap.objs.size = some itO → h'.objs.size = s.heap.objs.size + 2 →
      (∀ b o, s.heap.get? b = some o → h'.get? b = some o) → Q (.ref (s.heap.objs.size + 1)) { s with heap := h' }) :
    wpAny (model prog w) A (call (.type "enumerate") [src]) Q E s := by
  have z : (s.heap.push itO).objs.size = s.heap.objs.size + 1 := Heap.size_push ..
  refine callType_new F.called_enumerate (by decide) (F.typeCall_enumerate_1 _) (F.newCall_enumerate_1 _) (fun obj => F.args_object_init_2 obj _) F.entry_enumerate_new (meets_new1 B) ⟨hH, ?_⟩
  show _ ∧ _
  rw [z]
  have en : IsEnum ((s.heap.push itO).push { cls := .type "enumerate", data := .fields #[.none, .bool false, .ref s.heap.objs.size, rawInt 0, .none, .none] }) (s.heap.objs.size + 1) s.heap.objs.size 0 .none := by
    have q := Heap.get?_push_size (s.heap.push itO) (o := { cls := .type "enumerate", data := .fields #[.none, .bool false, .ref s.heap.objs.size, rawInt 0, .none, .none] }) rfl
    rw [z] at q
    exact q
  exact ⟨⟨_, en, rfl⟩, h _ en (Heap.get?_push_of_some _ (Heap.get?_push_size _ B.free)) (by rw [Heap.size_push, z]) fun b o x => Heap.get?_push_of_some _ (Heap.get?_push_of_some _ x)⟩
theorem end2 {prog : Program} {w : World} {A : Around} {E : Value → Shared → Prop} {s : Shared} {e it a : Addr} {i : Int} {j : Nat} {its : Array Value} {old : Value} {Q : Option Value → Shared → Prop} (hh : A.handled = none)
    (hen : IsEnum s.heap e it i old) (hti : s.heap.IsTupleIter it a j) (tp : s.heap.IsTuple a its) (hx : its[j]? = none)
    (k : ∀ h', Heap.ExtBut it s.heap h' → Q none { s with heap := h' }) : wpAny (model prog w) A (pyNext (.ref e)) Q E s := by
  have ty : s.TypeIs (.ref e) "enumerate" := ⟨_, hen, rfl⟩
  unfold pyNext
  refine wpAny_bind (wpAny_attempt (wpAny_callSpecial?_slot (name := Str.ofString "__next__") ty F.slot_enumerate_next ?_))
  refine wpAny_call_entry F.slot_enumerate_next ty F.entry_enumerate_next ?_ (F.args_enumerate_next_1 _)
  show wpAny _ _ (field (.ref e) 2 >>= _) _ _ _
  refine wpAny_bind (wpAny_field hen rfl (x := .ref it) rfl (wpAny_bind (wpAny_nextOf_tuple_end hh hti tp hx fun h' x eb hxo => ?_)))
  obtain ⟨ob, hob, hcl⟩ := hxo
  exact wpAny_bind (wpAny_isInstance (T := "StopIteration") (b := true) ⟨ob, hob, hcl⟩ isSubtype_stop (wpAny_pure (k _ eb)))
end EnT
end PySem
namespace R
open PySem PySem.Spec PyProof.Rows L2
open PySem.W (Frag)
/-- the tuple at a, each item in a new pair -/
def IteT (K : Frag) (a : Addr) : It :=
  ⟨fun i H => ∃ (xs : List V) (x : V), SqT K H a xs ∧ xs[i]? = some x,
   fun i H v H' => ∃ T x, v = .ref T ∧ H T = none ∧ H' = upd H T (.tup [.int (i : Nat), x]) ∧ ∀ xs, SqT K H a xs → xs[i]? = some x,
   fun i H => ∃ xs : List V, SqT K H a xs ∧ xs.length ≤ i⟩
theorem apart_ti {h : Heap} {a it : Addr} {i : Nat} {its : Array Value} (t : h.IsTuple a its) (j : h.IsTupleIter it a i) : a ≠ it := by
  intro z
  obtain ⟨o1, q1, c1, _⟩ := t
  obtain ⟨o2, q2, c2, _⟩ := j
  rw [z, q2] at q1
  cases q1
  rw [c1] at c2
  exact absurd c2 (by decide)
theorem apart_te {h : Heap} {a e it : Addr} {i : Int} {old : Value} {its : Array Value} (t : h.IsTuple a its) (j : IsEnum h e it i old) : e ≠ a := by
  intro z
  obtain ⟨o1, q1, c1, _⟩ := t
  have q2 : h.get? e = some _ := j
  rw [← z, q2] at q1
  cases q1
  exact absurd (show Value.type "enumerate" = Value.type "tuple" from c1) (by decide)
theorem turn_enumT {P : Program} {w : World} {K : Frag} {elts : List Expr} {kk : Nat} {tpos : Pos} (a e it : Addr) :
    Turn P w K (.Tuple elts kk tpos) (IteT K a) [e, it] e (fun i h => (∃ old, IsEnum h e it ((i : Nat) : Int) old) ∧ h.IsTupleIter it a i ∧ e ≠ it) where
  mem := List.mem_cons_self
  obj := fun i h st b hb => by
    obtain ⟨⟨old, hen⟩, ⟨ob, hob, hcl, hdt⟩, _⟩ := st
    rcases List.mem_cons.mp hb with rfl | hb
    · exact ⟨_, hen, fun v q => nomatch q⟩
    · have z : b = it := by simpa using hb
      subst z
      exact ⟨ob, hob, fun v q => by rw [hdt] at q; cases q⟩
  keep := fun i h h' st k => by
    obtain ⟨⟨old, hen⟩, hti, ne⟩ := st
    exact ⟨⟨old, k e (by simp) _ hen⟩, hti.at fun o q => k it (by simp) o q, ne⟩
  item := by
    intro X hP hw hK hc i pins s σ H E I hf st hg
    subst hP hw hK
    obtain ⟨⟨old, hen⟩, hti, ne⟩ := st
    obtain ⟨xs, x, sq, hx⟩ := hg
    obtain ⟨its, rv, tp, _⟩ := I.tuple sq
    obtain ⟨u0, hu0, ru0⟩ := rv.get hx
    have tp' : s.heap.IsTuple a its.toArray := tp
    have n1 := apart_ti tp' hti
    have n2 := apart_te tp' hen
    have le1 : e < s.heap.objs.size := Heap.lt_size hen
    have le2 : it < s.heap.objs.size := by
      obtain ⟨_, q, _⟩ := hti
      exact Heap.lt_size q
    have hi : i < its.toArray.size := by
      obtain ⟨q, _⟩ := List.getElem?_eq_some_iff.mp hu0
      simpa using q
    refine wpAny_pyNext_enum_itemD (Draws.tuple (A := X.A.in1) (show X.A.in1.handled = none from I.ok.hd hc) it a n1 its.toArray) hen ⟨hti, tp'⟩ hi ne (by simp [ne, n2]) fun v h' tk hv hout hst hT _ hk => ?_
    have ev : v = u0 := by
      have q : its.toArray[i]? = some u0 := by simpa using hu0
      rw [q] at hv
      exact (Option.some.inj hv).symm
    subst ev
    refine ⟨_, rfl, wpAny_letOwnedTupleGo_enum (s := { s with heap := h', toks := tk + 1 }) hout fun h'' hen' sb => ?_⟩
    have hT2 : h''.get? s.heap.objs.size = some { cls := .type "tuple", data := .seq #[.int i tk, v] } := (sb.2 _ (Nat.ne_of_gt le1)).trans hT
    have kp : ∀ b ob, b ∉ [e, it] → s.heap.get? b = some ob → h''.get? b = some ob := fun b ob hb q => by
      have q1 : b ≠ e := fun z => hb (by simp [z])
      have q2 : b ≠ it := fun z => hb (by simp [z])
      exact (sb.2 b q1).trans (hk b ob q1 q2 q)
    have nw : ObjOk X.prog X.w (upd H s.heap.objs.size (.tup [.int (i : Nat), x])) h'' s.heap.objs.size (.tup [.int (i : Nat), x]) :=
      ⟨(by show 2 ≤ sizeLine; decide), [.int i tk, v], .cons ⟨_, rfl⟩ (.cons ru0 .nil), ⟨_, hT2, rfl, _, rfl⟩⟩
    have J : Inv X pins σ (upd H s.heap.objs.size (.tup [.int (i : Nat), x])) { s with heap := h'', toks := tk + 1 } := I.turnedNew (ch := [e, it]) kp hf (Nat.le_refl _) nw
    refine ⟨.ref s.heap.objs.size, _, J, rfl, ⟨_, x, rfl, I.hok.fresh (Nat.le_refl _), rfl, fun ys hy => by rw [I.tuple_inj hy sq]; exact hx⟩, ⟨⟨v, ?_⟩, hst.1.at fun o q => (sb.2 it (Ne.symm ne)).trans q, ne⟩, fun b hb => ?_⟩
    · have e1 : ((i + 1 : Nat) : Int) = (i : Int) + 1 := by omega
      rw [e1]
      exact hen'
    · have lb : b < s.heap.objs.size := by
        rcases List.mem_cons.mp hb with z | hb
        · rw [z]; exact le1
        · have z : b = it := by simpa using hb
          rw [z]; exact le2
      rw [upd_ne (Nat.ne_of_lt lb)]
      exact (hf b hb).1
  done := by
    intro X hP hw hK hc i pins s σ H E I hf st hg
    subst hP hw hK
    obtain ⟨⟨old, hen⟩, hti, ne⟩ := st
    obtain ⟨xs, sq, hx⟩ := hg
    obtain ⟨its, rv, tp, _⟩ := I.tuple sq
    have tp' : s.heap.IsTuple a its.toArray := tp
    obtain ⟨f0, f1, f2, f3, f4, f5⟩ := hf it (by simp)
    have hl := rv.length
    refine EnT.end2 (I.ok.hd hc) hen hti tp' (by simp; omega) fun h' eb => ?_
    exact ⟨rfl, I.turned (t' := s.toks) (fun b o hb q => eb b o hb q) f0 f1 f3 f4 f5⟩
  self := fun A i s Q E st h => by
    obtain ⟨⟨_, hen⟩, _⟩ := st
    exact wpAny_pyIter_enum hen h
def iEnumT (K : Frag) (ta : TA) : TI := fun σ H RR => ta σ H fun vs H1 => ∃ a xs, vs = [.ref a] ∧ SqT K H1 a xs ∧ RR (IteT K a) H1
theorem pi_enumT {X : Cx} {e : Expr} {ta : TA} {p pos tpos : Pos} {elts : List Expr} {kk : Nat} (hg : Gl X "enumerate") (hm : X.mg "enumerate" = none) (ha : PA X [e] ta) (hs : starEach [e] X.env = [(false, eval e X.env)] := by rfl) :
    PI X (.Tuple elts kk tpos) (.Call (.Name "enumerate" p) [e] [] pos) (iEnumT X.K ta) := by
  refine ⟨fun pins s σ H RR I h => ?_⟩
  refine Call_ (ld_blt I hg hm boot_enumerate (PyProof.Rows.callWith_type1 (thn (ha.run pos pins s σ H _ I h) fun us s1 ⟨vs, H1, I1, r1, q1⟩ => ?_) hs rfl))
  obtain ⟨a, xs, ev, sq, q⟩ := q1
  subst ev
  obtain ⟨u, hu, ru⟩ := vals1 r1
  subst hu
  cases ru
  obtain ⟨its, rv, tp, _⟩ := I1.tuple sq
  have tp' : s1.heap.IsTuple a its.toArray := tp
  refine EnT.call_new1 (begins_tuple a its.toArray) tp' fun h' hen hit _ hk => wpAny_pyIter_enum hen ?_
  have J : Inv X pins σ H1 { s1 with heap := h' } := I1.kept (t' := s1.toks) hk
  refine ⟨s1.heap.objs.size + 1, [s1.heap.objs.size + 1, s1.heap.objs.size], _, _, H1, rfl, J, turn_enumT a (s1.heap.objs.size + 1) s1.heap.objs.size, ⟨⟨.none, hen⟩, ⟨_, hit, rfl, rfl⟩, Nat.succ_ne_self _⟩, fun b hb => ?_, q⟩
  have le : s1.heap.objs.size ≤ b := by
    rcases List.mem_cons.mp hb with z | hb
    · rw [z]; exact Nat.le_succ _
    · have z : b = s1.heap.objs.size := by simpa using hb
      rw [z]; exact Nat.le_refl _
  exact I1.fpOk le (I1.hok.fresh le)
theorem walk_enumT {K : Frag} {a : Addr} {xs : List V} : Walk (IteT K a) xs.length (fun H => SqT K H a xs) (YPair (fun i => some (.int (i : Nat))) (fun i => xs[i]?)) := by
  refine ⟨fun i _ hi q => ⟨xs, xs[i], q, by simp [hi]⟩, fun _ q => ⟨xs, q, Nat.le_refl _⟩, fun i H v H' _ q y => ?_⟩
  obtain ⟨T, x, h1, h2, h3, h4⟩ := y
  exact ⟨T, .int (i : Nat), x, h1, h2, h3, rfl, h4 xs q⟩
end R
namespace R
open PySem PySem.Spec PyProof.Rows L2
open PySem.W (Frag)
theorem a_enumT {K : Frag} {tr : TA} {σ : L2.St} {H : Hp} {RR : It → Hp → Prop} (h : tr σ H fun vs H1 => ∃ a xs, vs = [.ref a] ∧ SqT K H1 a xs ∧ RR (IteT K a) H1) : iEnumT K tr σ H RR := h
end R

/-! ## fields of an own instance -/
namespace R
open PySem PySem.Spec PyProof.Rows L2
open PySem.W (Frag)
def rFld (K : Frag) (f : Str) : V → Hp → VK → Prop := fun x H Q => ∃ a C dx fs v, x = .ref a ∧ H a = some (.ins C dx fs) ∧ Cls K C ∧ NoAttr K C f ∧ fs.lookup f = some v ∧ Q v H
def rSetF (K : Frag) (f : Str) : V → V → Hp → (Hp → Prop) → Prop := fun x y H P => ∃ a C dx fs, x = .ref a ∧ H a = some (.ins C dx fs) ∧ Cls K C ∧ NoAttr K C f ∧ fs.length < 1000 ∧ P (upd H a (.ins C dx (putF f y fs)))
def NewI (C : Addr) (sp : Sp) (dvs : List V) (E : XK) (vs : List V) (H : Hp) (Q : VK) : Prop := ∀ x dx, H x = none → H dx = none → dx ≠ x →
  sp (.ref x :: (vs ++ dvs)) (upd (upd H dx (.own x)) x (.ins C dx [])) (fun v H2 => v = .non ∧ Q (.ref x) H2) E
section
variable {K : Frag} {f g : Str} {ta tv : TE} {σ : L2.St} {H B : Hp} {Q : VK} {D : Ends} {Lw : List (Addr × HO)} {a C dx : Addr} {fs : List (Str × V)} {v y : V}
theorem a_fld (h : ta σ H fun x H1 => rFld K f x H1 Q) : tFld K ta f σ H Q := h
theorem a_sfld (h : tv σ H fun y H1 => ta σ H1 fun x H2 => rSetF K f x y H2 fun H3 => D.nx σ H3) : sFld K ta tv f D σ H := h
theorem a_getF (h : H a = some (.ins C dx fs)) (cl : Cls K C) (n : NoAttr K C f) (hl : fs.lookup f = some v) (q : Q v H) : rFld K f (.ref a) H Q := ⟨a, C, dx, fs, v, rfl, h, cl, n, hl, q⟩
theorem a_setF {P : Hp → Prop} (O : Own B Lw H) (i : Nat) (h : Lw[i]? = some (a, .ins C dx fs)) (cl : Cls K C) (n : NoAttr K C f) (hl : fs.length < 1000) (q : ∀ H', Own B (Lw.set i (a, .ins C dx (putF f y fs))) H' → P H') : rSetF K f (.ref a) y H P :=
  ⟨a, C, dx, fs, rfl, O.get i h, cl, n, hl, q _ (O.put i h)⟩
theorem lk_eq : ((f, v) :: fs).lookup f = some v := by
  have hb : (f == f) = true := beq_iff_eq.mpr rfl
  simp only [List.lookup, hb]
theorem lk_ne (h : ¬ f = g) : ((g, v) :: fs).lookup f = fs.lookup f := by
  have hb : (f == g) = false := beq_eq_false_iff_ne.mpr h
  simp only [List.lookup, hb]
theorem put_ne (h : ¬ g = f) : putF f y ((g, v) :: fs) = (g, v) :: putF f y fs := by
  show (if g = f then (g, y) :: fs else (g, v) :: putF f y fs) = _
  rw [if_neg h]
theorem put_eq : putF f y ((f, v) :: fs) = (f, y) :: fs := by
  show (if f = f then (f, y) :: fs else (f, v) :: putF f y fs) = _
  rw [if_pos rfl]
theorem put_nil : putF f y [] = [(f, y)] := rfl
/-- a new instance -/
theorem a_make {sp : Sp} {dvs : List V} {E : XK} {t : TA} (h : t σ H fun vs H1 => NewI C sp dvs E vs H1 Q) : tMake C sp dvs E t σ H Q := h
end
end R

namespace R
open PySem PySem.Spec PyProof.Rows L2
open PySem.W (Frag)
variable {K : Frag} {v : V} {σ : L2.St} {H : Hp}
theorem a_glst {n : Nat} {gs : TGs} {p : Addr} {xs : List V} {Qs : L2.St → Hp → Prop} (hs : SqL K H p xs) (hl : xs.length = n) (h : gs xs σ H Qs) : gLst K n gs (.ref p) σ H Qs := ⟨p, xs, rfl, hs, hl, h⟩
theorem pg_lstK {X : Cx} {pos : Pos} {es : List Expr} {k : Nat} {t : TGs} {n : Nat} (hc : X.calm = true) (h : PGs X es t) (hK : X.K = K := by rfl) (hn : (assignEach es X.env).length = n := by rfl) (hst : (assignEach es X.env).findIdx? (·.1) = none := by rfl) : PG X (.Tuple es k pos) (gLst K n t) := by
  subst hK; exact pg_lst hc h hn hst
end R

/-! ## the numbers behind, and the first that fail -/
namespace R
open PySem PySem.Spec PyProof.Rows L2
open PySem.W (Frag)
/-- what a trick makes of n -/
def beh (b k t n : Int) : Int := n / b ^ k.toNat + t * (n % b ^ k.toNat)
/-- a number or None -/
def optV : Option Int → V
  | none => .non
  | some n => .int n
/-- the least number below i with p -/
def fstB (p : Int → Bool) (i : Nat) : Option Int := (List.range i).findSome? fun (j : Nat) => if p j = true then some (j : Int) else none
theorem fstB_zero {p : Int → Bool} : fstB p 0 = none := rfl
theorem fstB_step {p : Int → Bool} {i : Nat} : fstB p (i + 1) = (fstB p i).or (if p i = true then some (i : Int) else none) := by
  unfold fstB
  rw [List.range_succ, List.findSome?_append]
  congr 1
  cases c : p (i : Int) <;> simp [List.findSome?, c]
theorem fstB_yes {p : Int → Bool} {i : Nat} (h : fstB p i = none) (e : p i = true) : fstB p (i + 1) = some (i : Int) := by rw [fstB_step, h, if_pos e]; rfl
theorem fstB_no {p : Int → Bool} {i : Nat} (h : fstB p i = none) (e : p i = false) : fstB p (i + 1) = none := by rw [fstB_step, h, e]; rfl
theorem fstB_old {p : Int → Bool} {i : Nat} {x : Int} (h : fstB p i = some x) : fstB p (i + 1) = some x := by rw [fstB_step, h]; rfl
theorem fstB_hit {p : Int → Bool} {i : Nat} (h : fstB p i = none) (e : p i = true) : ∀ n : Nat, i < n → fstB p n = some (i : Int) := find_hit h (if_pos e)
theorem fstB_none {p : Int → Bool} {n : Nat} (h : fstB p n = none) {x : Int} (h0 : 0 ≤ x) (h1 : x < n) : p x = false := by
  unfold fstB at h
  rw [List.findSome?_eq_none_iff] at h
  have q := h x.toNat (List.mem_range.mpr (by omega))
  have e : ((x.toNat : Nat) : Int) = x := by omega
  rw [e] at q
  cases c : p x with
  | false => rfl
  | true => rw [if_pos c] at q; cases q
theorem fstB_some {p : Int → Bool} {n : Nat} {x : Int} (h : fstB p n = some x) : 0 ≤ x ∧ x < n ∧ p x = true := by
  unfold fstB at h
  obtain ⟨i, hi, e⟩ := List.exists_of_findSome?_eq_some h
  have h1 := List.mem_range.mp hi
  split at e
  · rename_i c
    cases e
    exact ⟨by omega, by omega, c⟩
  · cases e
/-- no rest is kept; a multiple and none -/
def unl (b k t d n : Int) : Bool := !decide (n % d = beh b k t n % d)
def fls (b k t d n : Int) : Bool := decide (n % d = 0) != decide (beh b k t n % d = 0)
theorem beh_turn {b k t d q m : Int} (hB : 0 < b ^ k.toNat) : beh b k t (q * (d * b ^ k.toNat) + m) = q * d + beh b k t m := by
  unfold beh
  generalize b ^ k.toNat = B at *
  have e : q * (d * B) + m = m + B * (q * d) := by
    rw [← Int.mul_assoc, Int.mul_comm (q * d) B]; omega
  rw [e, Int.add_mul_ediv_left _ _ (by omega), Int.add_mul_emod_self_left]
  omega
theorem turn_of {b k t d : Int} (hB : 0 < b ^ k.toNat) (hd : 0 < d) (n : Int) : ∃ m : Int, 0 ≤ m ∧ m < d * b ^ k.toNat ∧ n % d = m % d ∧ beh b k t n % d = beh b k t m % d := by
  have h : 0 < d * b ^ k.toNat := Int.mul_pos hd hB
  refine ⟨n % (d * b ^ k.toNat), Int.emod_nonneg _ (by omega), Int.emod_lt_of_pos _ h, ?_, ?_⟩
  · rw [Int.emod_emod_of_dvd _ (Int.dvd_mul_right d _)]
  · have e := Int.mul_ediv_add_emod n (d * b ^ k.toNat)
    rw [Int.mul_comm] at e
    have q := beh_turn (t := t) (d := d) (q := n / (d * b ^ k.toNat)) (m := n % (d * b ^ k.toNat)) hB
    rw [e] at q
    rw [q, Int.add_comm, Int.add_mul_emod_self_right]
theorem unl_all {b k t d : Int} (hB : 0 < b ^ k.toNat) (hd : 0 < d) (h : fstB (unl b k t d) (d * b ^ k.toNat).toNat = none) (n : Int) : unl b k t d n = false := by
  obtain ⟨m, h0, h1, e1, e2⟩ := turn_of (t := t) hB hd n
  have q := fstB_none h h0 (by omega)
  unfold unl at *
  rw [e1, e2]; exact q
theorem fls_all {b k t d : Int} (hB : 0 < b ^ k.toNat) (hd : 0 < d) (h : fstB (fls b k t d) (d * b ^ k.toNat).toNat = none) (n : Int) : fls b k t d n = false := by
  obtain ⟨m, h0, h1, e1, e2⟩ := turn_of (t := t) hB hd n
  have q := fstB_none h h0 (by omega)
  unfold fls at *
  rw [e1, e2]; exact q
section
variable {H : Hp} {Q : VK}
theorem a_neB {p q : Bool} (h : Q (.bl (p != q)) H) : rNe (.bl p) (.bl q) H Q := ⟨rfl, by rw [dec_bl]; exact h⟩
theorem a_eqB {p q : Bool} (h : Q (.bl (p == q)) H) : rEq (.bl p) (.bl q) H Q := ⟨rfl, by rw [dec_bl]; exact h⟩
theorem a_isO1 (h : Q (.bl true) H) : rIsN (optV none) .non H Q := a_isN1 h
theorem a_isO0 {n : Int} (h : Q (.bl false) H) : rIsN (optV (some n)) .non H Q := a_isN0 (fun z => by cases z) h
theorem a_notO1 (h : Q (.bl false) H) : rNotN (optV none) .non H Q := a_notN1 h
theorem a_notO0 {n : Int} (h : Q (.bl true) H) : rNotN (optV (some n)) .non H Q := a_notN0 (fun z => by cases z) h
theorem a_neO {o : Option Int} (h : Q (.bl false) H) : rNe (optV o) (optV o) H Q := by
  refine ⟨?_, ?_⟩
  · cases o <;> rfl
  · rw [decide_eq_true rfl]; exact h
end
end R
namespace R
open PySem PySem.Spec PyProof.Rows L2
theorem a_par3 {i j l : Nat} {tr : TA} {D : Ends} {σ : L2.St} {H : Hp} (h : tr σ H fun vs H1 => ∃ u v w, vs = [u, v, w] ∧ D.nx (((σ.set i (some u)).set j (some v)).set l (some w)) H1) : tPar3 i j l tr D σ H := h
theorem a_par33 {x y z : V} {A : V → V → V → Prop} (h : A x y z) : ∃ u v w, [x, y, z] = [u, v, w] ∧ A u v w := ⟨x, y, z, rfl, h⟩
end R

/-! ## when a trick tells -/
namespace R
open PySem PySem.Spec PyProof.Rows L2
theorem fstB_all {p : Int → Bool} : ∀ {n : Nat}, (∀ x, p x = false) → fstB p n = none
  | 0, _ => rfl
  | n + 1, h => fstB_no (fstB_all h) (h n)
theorem dvd_same {a b d : Int} (h : a % d = b % d) : d ∣ a - b := by
  refine Int.dvd_of_emod_eq_zero ?_
  rw [Int.sub_emod, h, Int.sub_self, Int.zero_emod]
theorem same_dvd {a b d : Int} (h : d ∣ a - b) : a % d = b % d := by
  obtain ⟨c, e⟩ := h
  have z : a = b + d * c := by omega
  rw [z, Int.add_mul_emod_self_left]
theorem zero_dvd' {a d : Int} : a % d = 0 ↔ d ∣ a := ⟨Int.dvd_of_emod_eq_zero, Int.emod_eq_zero_of_dvd⟩
theorem beh_mul {b k t d : Int} (hg : d ∣ t * b ^ k.toNat - 1) (n : Int) : d ∣ beh b k t n - t * n := by
  unfold beh
  generalize b ^ k.toNat = B at *
  have e := Int.mul_ediv_add_emod n B
  generalize n / B = q at *
  generalize n % B = r at *
  have z : q + t * r - t * n = -(q * (t * B - 1)) := by
    rw [← e, Int.mul_add, Int.mul_sub, Int.mul_one, ← Int.mul_assoc, Int.mul_comm q (t * B)]
    omega
  rw [z]
  exact Int.dvd_neg.mpr (Int.dvd_trans hg (Int.dvd_mul_left _ _))
theorem fls_false {b k t d n : Int} : fls b k t d n = false ↔ (d ∣ n ↔ d ∣ beh b k t n) := by
  unfold fls
  rw [← zero_dvd', ← zero_dvd']
  by_cases h1 : n % d = 0 <;> by_cases h2 : beh b k t n % d = 0 <;> simp [h1, h2]
theorem unl_false {b k t d n : Int} : unl b k t d n = false ↔ n % d = beh b k t n % d := by
  unfold unl
  by_cases h1 : n % d = beh b k t n % d <;> simp [h1]
theorem good_fls {b k t d : Int} (hg : d ∣ t * b ^ k.toNat - 1) (n : Int) : fls b k t d n = false := by
  have q := beh_mul hg n
  refine fls_false.mpr ⟨fun h => ?_, fun h => ?_⟩
  · have e : beh b k t n = (beh b k t n - t * n) + t * n := by omega
    rw [e]
    exact Int.dvd_add q (Int.dvd_trans h (Int.dvd_mul_left _ _))
  · have h1 : d ∣ t * n := by
      have e : t * n = beh b k t n - (beh b k t n - t * n) := by omega
      rw [e]
      exact Int.dvd_sub h q
    have h2 : d ∣ b ^ k.toNat * (t * n) := Int.dvd_trans h1 (Int.dvd_mul_left _ _)
    have h3 : d ∣ n * (t * b ^ k.toNat - 1) := Int.dvd_trans hg (Int.dvd_mul_left _ _)
    have e : n = b ^ k.toNat * (t * n) - n * (t * b ^ k.toNat - 1) := by
      rw [Int.mul_sub, Int.mul_one, ← Int.mul_assoc, Int.mul_comm n (t * b ^ k.toNat), Int.mul_comm (b ^ k.toNat) t]
      omega
    rw [e]
    exact Int.dvd_sub h2 h3
theorem fls_good {b k t d : Int} (hB : 2 ≤ b ^ k.toNat) (h : ∀ n, fls b k t d n = false) : d ∣ t * b ^ k.toNat - 1 := by
  have q := fls_false.mp (h (-t * b ^ k.toNat + 1))
  unfold beh at q
  generalize b ^ k.toNat = B at *
  have e1 : (-t * B + 1) / B = -t := by
    rw [Int.add_comm, Int.add_mul_ediv_right _ _ (by omega), Int.ediv_eq_zero_of_lt (by omega) (by omega), Int.zero_add]
  have e2 : (-t * B + 1) % B = 1 := by
    rw [Int.add_comm, Int.add_mul_emod_self_right]; exact Int.emod_eq_of_lt (by omega) (by omega)
  rw [e1, e2, Int.mul_one] at q
  have z : d ∣ -t + t := by
    rw [Int.add_left_neg]; exact Int.dvd_zero d
  have w := q.mpr z
  have e3 : t * B - 1 = -(-t * B + 1) := by
    rw [Int.neg_mul]; omega
  rw [e3]
  exact Int.dvd_neg.mpr w
theorem unl_good {b k t d : Int} (hB : 2 ≤ b ^ k.toNat) (h : ∀ n, unl b k t d n = false) : d ∣ t * b ^ k.toNat - 1 ∧ d ∣ b ^ k.toNat - 1 := by
  have q1 := unl_false.mp (h (b ^ k.toNat))
  have q2 := unl_false.mp (h 1)
  unfold beh at q1 q2
  generalize b ^ k.toNat = B at *
  rw [Int.ediv_self (by omega), Int.emod_self, Int.mul_zero, Int.add_zero] at q1
  rw [Int.ediv_eq_zero_of_lt (by omega) (by omega), Int.emod_eq_of_lt (a := 1) (b := B) (by omega) (by omega), Int.mul_one, Int.zero_add] at q2
  have d1 := dvd_same q1
  have d2 := dvd_same q2.symm
  refine ⟨?_, d1⟩
  have e : t * B - 1 = t * (B - 1) + (t - 1) := by
    rw [Int.mul_sub, Int.mul_one]; omega
  rw [e]
  exact Int.dvd_add (Int.dvd_trans d1 (Int.dvd_mul_left _ _)) d2
theorem good_unl {b k t d : Int} (hg : d ∣ t * b ^ k.toNat - 1) (h1 : d ∣ b ^ k.toNat - 1) (n : Int) : unl b k t d n = false := by
  have q := beh_mul hg n
  refine unl_false.mpr (same_dvd ?_)
  have e1 : t - 1 = (t * b ^ k.toNat - 1) - t * (b ^ k.toNat - 1) := by
    rw [Int.mul_sub, Int.mul_one]; omega
  have d2 : d ∣ t - 1 := by
    rw [e1]
    exact Int.dvd_sub hg (Int.dvd_trans h1 (Int.dvd_mul_left _ _))
  have e2 : n - beh b k t n = -((beh b k t n - t * n) + (t - 1) * n) := by
    rw [Int.sub_mul, Int.one_mul]; omega
  rw [e2]
  exact Int.dvd_neg.mpr (Int.dvd_add q (Int.dvd_trans d2 (Int.dvd_mul_right _ _)))
theorem fls_iff {b k t d : Int} (hB : 2 ≤ b ^ k.toNat) (hd : 0 < d) : fstB (fls b k t d) (d * b ^ k.toNat).toNat = none ↔ t * b ^ k.toNat % d = 1 % d :=
  ⟨fun h => same_dvd (fls_good hB (fls_all (by omega) hd h)), fun h => fstB_all (good_fls (dvd_same h))⟩
theorem unl_iff {b k t d : Int} (hB : 2 ≤ b ^ k.toNat) (hd : 0 < d) : fstB (unl b k t d) (d * b ^ k.toNat).toNat = none ↔ t * b ^ k.toNat % d = 1 % d ∧ b ^ k.toNat % d = 1 % d :=
  ⟨fun h => (unl_good hB (unl_all (by omega) hd h)).imp same_dvd same_dvd, fun h => fstB_all (good_unl (dvd_same h.1) (dvd_same h.2))⟩
/-- by what the rest is multiplied -/
def facO (b k t d : Int) : Option Int := if t * b ^ k.toNat % d = 1 % d then some (t % d) else none
theorem rest_mul {t B d : Int} : t % d * B % d = t * B % d := by rw [Int.mul_emod, Int.emod_emod, ← Int.mul_emod]
theorem good_gcd {t B d : Int} (h : t * B % d = 1 % d) : Int.gcd B d = 1 := by
  have q := dvd_same h
  have h1 : ((Int.gcd B d : Nat) : Int) ∣ t * B - 1 := Int.dvd_trans (Int.gcd_dvd_right _ _) q
  have h2 : ((Int.gcd B d : Nat) : Int) ∣ t * B := Int.dvd_trans (Int.gcd_dvd_left _ _) (Int.dvd_mul_left _ _)
  have e : ((1 : Nat) : Int) = t * B - (t * B - 1) := by omega
  have h3 : ((Int.gcd B d : Nat) : Int) ∣ ((1 : Nat) : Int) := by
    rw [e]; exact Int.dvd_sub h2 h1
  exact Nat.dvd_one.mp (Int.natCast_dvd_natCast.mp h3)
theorem fac_beh {b k t d : Int} (h : t * b ^ k.toNat % d = 1 % d) (n : Int) : beh b k t n % d = t % d * n % d := by
  rw [rest_mul]
  exact same_dvd (beh_mul (dvd_same h) n)
section
variable {H : Hp} {Q : VK}
theorem a_neS {s : Str} (h : Q (.bl false) H) : rNe (.str s) (.str s) H Q := ⟨rfl, by rw [decide_eq_true rfl]; exact h⟩
theorem a_eqS {s : Str} (h : Q (.bl true) H) : rEq (.str s) (.str s) H Q := ⟨rfl, by rw [decide_eq_true rfl]; exact h⟩
theorem a_neTT {p A B : Prop} [Decidable p] (h : p) (q : B) : if (true != decide p) = true then A else B := by rw [decide_eq_true h]; exact q
theorem a_neFF {p A B : Prop} [Decidable p] (h : ¬ p) (q : B) : if (false != decide p) = true then A else B := by rw [decide_eq_false h]; exact q
theorem q_neTT {p : Prop} [Decidable p] {QB : Bool → Hp → Prop} (hq : QB false H) (h : p) : QB (true != decide p) H := by rw [decide_eq_true h]; exact hq
theorem q_neFF {p : Prop} [Decidable p] {QB : Bool → Hp → Prop} (hq : QB false H) (h : ¬ p) : QB (false != decide p) H := by rw [decide_eq_false h]; exact hq
end
end R

/-! ## the items of a range that pass a test -/
namespace R
def flt (p : Int → Bool) (lo : Int) : Nat → List Int
  | 0 => []
  | n + 1 => flt p lo n ++ (if p (lo + n) = true then [lo + n] else [])
section
variable {p q : Int → Bool} {lo : Int}
theorem flt_len : ∀ n, (flt p lo n).length ≤ n
  | 0 => Nat.le_refl 0
  | n + 1 => by
    have h := flt_len n
    show (flt p lo n ++ _).length ≤ n + 1
    rw [List.length_append]
    split
    · rw [List.length_singleton]; omega
    · rw [List.length_nil]; omega
theorem flt_yes {n : Nat} (h : p (lo + n) = true) : flt p lo (n + 1) = flt p lo n ++ [lo + n] := by
  show flt p lo n ++ _ = _
  rw [if_pos h]
theorem flt_no {n : Nat} (h : p (lo + n) = false) : flt p lo (n + 1) = flt p lo n := by
  show flt p lo n ++ _ = _
  rw [if_neg (by rw [h]; decide), List.append_nil]
theorem flt_ext : ∀ n : Nat, (∀ i : Nat, i < n → p (lo + i) = q (lo + i)) → flt p lo n = flt q lo n
  | 0, _ => rfl
  | n + 1, h => by
    show flt p lo n ++ _ = flt q lo n ++ _
    rw [flt_ext n fun i hi => h i (by omega), h n (by omega)]
theorem flt_none : ∀ n : Nat, (∀ i : Nat, i < n → p (lo + i) = false) → flt p lo n = []
  | 0, _ => rfl
  | n + 1, h => by rw [flt_no (h n (by omega)), flt_none n fun i hi => h i (by omega)]
theorem flt_in {x : Int} : ∀ {n : Nat}, x ∈ flt p lo n → lo ≤ x ∧ x < lo + n ∧ p x = true
  | 0, h => by simp [flt] at h
  | n + 1, h => by
    rcases List.mem_append.mp (show x ∈ flt p lo n ++ _ from h) with h | h
    · have z := flt_in h
      exact ⟨z.1, by omega, z.2.2⟩
    · split at h
      · rename_i c
        have e : x = lo + n := by simpa using h
        rw [e]; exact ⟨by omega, by omega, c⟩
      · simp at h
end
/-- times tells the multiples of d, B its block -/
def goodB (B t d : Int) : Bool := decide (t * B % d = 1 % d)
end R

/-! ## rows of tricks: a list or a tuple -/
namespace R
open PySem PySem.Spec PyProof.Rows L2
open PySem.W (Frag)
def EAt (H : Hp) (a : Addr) (xs : List V) : Prop := H a = some (.lst xs) ∨ H a = some (.tup xs)
theorem EAt.up {B H : Hp} {a : Addr} {xs : List V} (s : Same B H) (h : EAt B a xs) : EAt H a xs := h.imp (s _ _) (s _ _)
/-- two rules for one walk -/
def iEi (w1 w2 : TI) : TI := fun σ H RR => w1 σ H RR ∨ w2 σ H RR
theorem pi_either {X : Cx} {tg it : Expr} {w1 w2 : TI} (h1 : PI X tg it w1) (h2 : PI X tg it w2) : PI X tg it (iEi w1 w2) :=
  ⟨fun pins s σ H RR I h => h.elim (h1.run pins s σ H RR I) (h2.run pins s σ H RR I)⟩
section
variable {K : Frag} {B H : Hp} {a : Addr} {xs : List V} {v : Nat} {σ : L2.St} {g : TG} {tb : TS} {D : Ends} {Q : VK}
theorem for_E (hB : EAt B a xs) (hv : σ[v]? = some (some (.ref a))) (Pv : Nat → L2.St → Hp → Prop) (h0 : Pv 0 σ H) (hS : ∀ i σ H, Pv i σ H → Same B H)
    (hs : ∀ i x σ H, xs[i]? = some x → Pv i σ H → g x σ H fun σ2 H2 => tb { D with nx := Pv (i + 1), ct := Pv (i + 1), bk := D.nx } σ2 H2) (hd : ∀ σ H, Pv xs.length σ H → D.nx σ H) : tFor (iEi (iList K (tVar v)) (iTup K (tVar v))) g tb D σ H := by
  refine a_for ?_
  rcases hB with hB | hB
  · have sq : ∀ i σ H, Pv i σ H → SqL K H a xs := fun i σ H p => SqL.of (hS i σ H p _ _ hB)
    refine .inl (a_iL (a_var hv ⟨a, rfl, ⟨xs, sq _ _ _ h0⟩, ?_⟩))
    exact for_it walk_list Pv h0 (fun i σ H _ p => sq i σ H p) (fun i x σ H H' hi p y => by obtain ⟨rfl, y⟩ := y; exact hs i x σ _ y p) hd
  · have sq : ∀ i σ H, Pv i σ H → SqT K H a xs := fun i σ H p => SqT.of (hS i σ H p _ _ hB)
    refine .inr (a_iT (a_var hv ⟨a, rfl, ⟨xs, sq _ _ _ h0⟩, ?_⟩))
    exact for_it walk_tup Pv h0 (fun i σ H _ p => sq i σ H p) (fun i x σ H H' hi p y => by obtain ⟨rfl, y⟩ := y; exact hs i x σ _ y p) hd
theorem for_enumE (hB : EAt B a xs) (hv : σ[v]? = some (some (.ref a))) (Pv : Nat → L2.St → Hp → Prop) (h0 : Pv 0 σ H) (hS : ∀ i σ H, Pv i σ H → Same B H)
    (hs : ∀ i x T σ H, xs[i]? = some x → Pv i σ H → H T = none → g (.ref T) σ (upd H T (.tup [.int (i : Nat), x])) fun σ2 H2 => tb { D with nx := Pv (i + 1), ct := Pv (i + 1), bk := D.nx } σ2 H2) (hd : ∀ σ H, Pv xs.length σ H → D.nx σ H) : tFor (iEi (iEnum K (tCons (tVar v) tNil)) (iEnumT K (tCons (tVar v) tNil))) g tb D σ H := by
  refine a_for ?_
  rcases hB with hB | hB
  · have sq : ∀ i σ H, Pv i σ H → SqL K H a xs := fun i σ H p => SqL.of (hS i σ H p _ _ hB)
    refine .inl (a_enum (a_cons (a_var hv (a_nil ⟨a, xs, rfl, sq _ _ _ h0, ?_⟩))))
    exact for_it walk_enum Pv h0 (fun i σ H _ p => sq i σ H p) (fun i x σ H H' hi p y => by
      obtain ⟨T, u, w, rfl, hT, rfl, e1, e2⟩ := y
      cases e1
      exact hs i w T σ H e2 p hT) hd
  · have sq : ∀ i σ H, Pv i σ H → SqT K H a xs := fun i σ H p => SqT.of (hS i σ H p _ _ hB)
    refine .inr (a_enumT (a_cons (a_var hv (a_nil ⟨a, xs, rfl, sq _ _ _ h0, ?_⟩))))
    exact for_it walk_enumT Pv h0 (fun i σ H _ p => sq i σ H p) (fun i x σ H H' hi p y => by
      obtain ⟨T, u, w, rfl, hT, rfl, e1, e2⟩ := y
      cases e1
      exact hs i w T σ H e2 p hT) hd
theorem a_lenE (h : EAt H a xs) (q : Q (.int xs.length) H) : rLen K [.ref a] H Q := ⟨a, xs, rfl, h.imp SqL.of SqT.of, q⟩
theorem a_isiE {tp : Addr} (h : EAt H a xs) (ht : H tp = some (.tup [.ty "list", .ty "tuple"])) (q : Q (.bl true) H) : rIsiT K [.ref a, .ref tp] H Q := by
  rcases h with h | h
  · exact ⟨_, tp, _, .type "list", [.type "list", .type "tuple"], true, rfl, ht, .cons (.ty _) (.cons (.ty _) .nil), .base (.lst h), kitAny_cons (b := true) (kit_ty (by decide +kernel)) (fun z => by cases z) (fun _ => rfl), q⟩
  · exact ⟨_, tp, _, .type "tuple", [.type "list", .type "tuple"], true, rfl, ht, .cons (.ty _) (.cons (.ty _) .nil), .base (.tup h), kitAny_cons (b := false) (kit_ty (by decide +kernel)) (fun _ => kitAny_cons (b := true) (kit_ty (by decide +kernel)) (fun z => by cases z) (fun _ => rfl)) (fun z => by cases z), q⟩
end
/-! the plain side: tricks one behind the other -/
abbrev Tr := Int × Int × Int
def TrOk (x : Tr) : Prop := (2 ≤ x.1 ∧ x.1 ≤ 16) ∧ (1 ≤ x.2.1 ∧ x.2.1 ≤ 2) ∧ -100 ≤ x.2.2 ∧ x.2.2 ≤ 100
def behT (x : Tr) (n : Int) : Int := beh x.1 x.2.1 x.2.2 n
def blk (x : Tr) : Int := x.1 ^ x.2.1.toNat
def behA : List Tr → Int → Int
  | [], n => n
  | x :: l, n => behA l (behT x n)
def wideA : List Tr → Int
  | [] => 1
  | x :: l => blk x * wideA l
theorem behA_snoc (x : Tr) : ∀ (l : List Tr) (n : Int), behA (l ++ [x]) n = behT x (behA l n)
  | [], _ => rfl
  | y :: l, n => behA_snoc x l (behT y n)
theorem wideA_snoc (x : Tr) : ∀ l : List Tr, wideA (l ++ [x]) = wideA l * blk x
  | [] => by show blk x * 1 = 1 * blk x; rw [Int.mul_one, Int.one_mul]
  | y :: l => by
    show blk y * wideA (l ++ [x]) = blk y * wideA l * blk x
    rw [wideA_snoc x l, Int.mul_assoc]
theorem behA_take {l : List Tr} {i : Nat} (h : i < l.length) (n : Int) : behA (l.take (i + 1)) n = behT l[i] (behA (l.take i) n) := by
  rw [List.take_succ_eq_append_getElem h, behA_snoc]
theorem wideA_take {l : List Tr} {i : Nat} (h : i < l.length) : wideA (l.take (i + 1)) = wideA (l.take i) * blk l[i] := by
  rw [List.take_succ_eq_append_getElem h, wideA_snoc]
theorem blk_pos {x : Tr} (h : TrOk x) : 2 ≤ blk x := by
  obtain ⟨h1, h2, _⟩ := h
  unfold blk
  have e : x.2.1 = 1 ∨ x.2.1 = 2 := by omega
  rcases e with e | e
  · rw [e]
    have z : x.1 ^ (1 : Int).toNat = x.1 := by rw [show (1 : Int).toNat = 1 from rfl, Int.pow_succ, Int.pow_zero, Int.one_mul]
    rw [z]; omega
  · rw [e]
    have z : x.1 ^ (2 : Int).toNat = x.1 * x.1 := by rw [show (2 : Int).toNat = 2 from rfl, Int.pow_succ, Int.pow_succ, Int.pow_zero, Int.one_mul]
    rw [z]
    have q : x.1 * 2 ≤ x.1 * x.1 := Int.mul_le_mul_of_nonneg_left h1.1 (by omega)
    omega
theorem wideA_pos : ∀ {l : List Tr}, (∀ x ∈ l, TrOk x) → 0 < wideA l
  | [], _ => by show (0 : Int) < 1; omega
  | x :: l, h => Int.mul_pos (by have := blk_pos (h x List.mem_cons_self); omega) (wideA_pos fun y hy => h y (List.mem_cons_of_mem _ hy))
def unlA (l : List Tr) (d n : Int) : Bool := !decide (n % d = behA l n % d)
def flsA (l : List Tr) (d n : Int) : Bool := decide (n % d = 0) != decide (behA l n % d = 0)
theorem behT_add {x : Tr} (h : TrOk x) (n m : Int) : behT x (n + m * blk x) = behT x n + m := by
  have hb := blk_pos h
  unfold behT beh
  unfold blk at *
  generalize x.1 ^ x.2.1.toNat = B at *
  rw [Int.add_mul_ediv_right _ _ (by omega), Int.add_mul_emod_self_right]
  omega
theorem behA_add : ∀ {l : List Tr}, (∀ x ∈ l, TrOk x) → ∀ n m : Int, behA l (n + m * wideA l) = behA l n + m
  | [], _, n, m => by show n + m * 1 = n + m; rw [Int.mul_one]
  | x :: l, h, n, m => by
    show behA l (behT x (n + m * (blk x * wideA l))) = behA l (behT x n) + m
    rw [← Int.mul_assoc, Int.mul_comm m (blk x), Int.mul_assoc, Int.mul_comm (blk x), behT_add (h x List.mem_cons_self)]
    exact behA_add (fun y hy => h y (List.mem_cons_of_mem _ hy)) _ _
theorem turnA {l : List Tr} (h : ∀ x ∈ l, TrOk x) {d : Int} (hd : 0 < d) (n : Int) : ∃ m : Int, 0 ≤ m ∧ m < d * wideA l ∧ n % d = m % d ∧ behA l n % d = behA l m % d := by
  have hw := Int.mul_pos hd (wideA_pos h)
  refine ⟨n % (d * wideA l), Int.emod_nonneg _ (by omega), Int.emod_lt_of_pos _ hw, ?_, ?_⟩
  · rw [Int.emod_emod_of_dvd _ (Int.dvd_mul_right d _)]
  · have e := Int.mul_ediv_add_emod n (d * wideA l)
    have q := behA_add h (n % (d * wideA l)) (d * (n / (d * wideA l)))
    have z : n % (d * wideA l) + d * (n / (d * wideA l)) * wideA l = n := by
      rw [Int.mul_assoc, Int.mul_comm (n / (d * wideA l)), ← Int.mul_assoc]; omega
    rw [z] at q
    rw [q, Int.add_mul_emod_self_left]
theorem unlA_all {l : List Tr} (h : ∀ x ∈ l, TrOk x) {d : Int} (hd : 0 < d) (e : fstB (unlA l d) (d * wideA l).toNat = none) (n : Int) : unlA l d n = false := by
  obtain ⟨m, h0, h1, e1, e2⟩ := turnA h hd n
  have q := fstB_none e h0 (by omega)
  unfold unlA at *
  rw [e1, e2]; exact q
theorem flsA_all {l : List Tr} (h : ∀ x ∈ l, TrOk x) {d : Int} (hd : 0 < d) (e : fstB (flsA l d) (d * wideA l).toNat = none) (n : Int) : flsA l d n = false := by
  obtain ⟨m, h0, h1, e1, e2⟩ := turnA h hd n
  have q := fstB_none e h0 (by omega)
  unfold flsA at *
  rw [e1, e2]; exact q
end R

/-! ## rows: lists of tuples of ints -/
namespace R
open PySem PySem.Spec PyProof.Rows L2
open PySem.W (Frag)
theorem snoc_get {α : Type} {xs : List α} {v x : α} {i : Nat} (h : (xs ++ [v])[i]? = some x) : (i < xs.length ∧ xs[i]? = some x) ∨ (i = xs.length ∧ x = v) := by
  by_cases c : i < xs.length
  · rw [List.getElem?_append_left c] at h
    exact .inl ⟨c, h⟩
  · rw [List.getElem?_append_right (by omega)] at h
    have z : i - xs.length = 0 := by
      by_cases z : i - xs.length = 0
      · exact z
      · rw [List.getElem?_eq_none (by rw [List.length_singleton]; omega)] at h
        cases h
    rw [z] at h
    exact .inr ⟨by omega, (Option.some.inj h).symm⟩
theorem dpAll_get {K : Frag} {H : Hp} : ∀ {xs : List V} {ds : List PyData}, xs.length = ds.length → (∀ (i : Nat) (x : V), xs[i]? = some x → ∃ d, ds[i]? = some d ∧ Dp K H x d) → DpAll K H xs ds
  | [], [], _, _ => .nil
  | [], _ :: _, h, _ => by simp at h
  | _ :: _, [], h, _ => by simp at h
  | x :: xs, d :: ds, hl, h => by
    obtain ⟨d', e, g⟩ := h 0 x rfl
    cases (show some d = some d' from e)
    exact .cons g (dpAll_get (by simpa using hl) fun i y hy => h (i + 1) y hy)
/-- the tuples of ints of a list -/
def RowsT (H : Hp) (xs : List V) (l : List (List Int)) : Prop := xs.length = l.length ∧ ∀ (i : Nat) (x : V), xs[i]? = some x → ∃ (q : Addr) (ns : List Int), l[i]? = some ns ∧ x = .ref q ∧ H q = some (.tup (ns.map V.int))
theorem RowsT.same {B H : Hp} {xs : List V} {l : List (List Int)} (s : Same B H) (h : RowsT B xs l) : RowsT H xs l := ⟨h.1, fun i x hx => by
  obtain ⟨q, ns, e1, e2, e3⟩ := h.2 i x hx
  exact ⟨q, ns, e1, e2, s _ _ e3⟩⟩
theorem RowsT.nil (H : Hp) : RowsT H [] [] := ⟨rfl, fun i x h => by simp at h⟩
theorem RowsT.snoc {H : Hp} {xs : List V} {l : List (List Int)} {q : Addr} {ns : List Int} (h : RowsT H xs l) (hq : H q = some (.tup (ns.map V.int))) : RowsT H (xs ++ [.ref q]) (l ++ [ns]) := by
  refine ⟨by rw [List.length_append, List.length_append, h.1]; rfl, fun i x hx => ?_⟩
  rcases snoc_get hx with ⟨c, hx⟩ | ⟨rfl, rfl⟩
  · obtain ⟨q', ns', e1, e2, e3⟩ := h.2 i x hx
    exact ⟨q', ns', by rw [List.getElem?_append_left (by rw [← h.1]; exact c)]; exact e1, e2, e3⟩
  · exact ⟨q, ns, by rw [h.1, List.getElem?_append_right (Nat.le_refl _), Nat.sub_self]; rfl, rfl, hq⟩
theorem RowsT.app {H : Hp} {xs ys : List V} {l m : List (List Int)} (h : RowsT H xs l) (g : RowsT H ys m) : RowsT H (xs ++ ys) (l ++ m) := by
  refine ⟨by rw [List.length_append, List.length_append, h.1, g.1], fun i x hx => ?_⟩
  by_cases c : i < xs.length
  · rw [List.getElem?_append_left c] at hx
    obtain ⟨q, ns, e1, e2, e3⟩ := h.2 i x hx
    exact ⟨q, ns, by rw [List.getElem?_append_left (by rw [← h.1]; exact c)]; exact e1, e2, e3⟩
  · rw [List.getElem?_append_right (by omega)] at hx
    obtain ⟨q, ns, e1, e2, e3⟩ := g.2 _ x hx
    exact ⟨q, ns, by rw [List.getElem?_append_right (by rw [← h.1]; omega), ← h.1]; exact e1, e2, e3⟩
theorem RowsT.at_ {H : Hp} {xs : List V} {l : List (List Int)} (h : RowsT H xs l) {i : Nat} {x : V} (hx : xs[i]? = some x) : ∃ (hl : i < l.length) (q : Addr), x = .ref q ∧ H q = some (.tup (l[i].map V.int)) := by
  obtain ⟨q, ns, e1, e2, e3⟩ := h.2 i x hx
  obtain ⟨hl, e⟩ := List.getElem?_eq_some_iff.mp e1
  exact ⟨hl, q, e2, by rw [e]; exact e3⟩
/-- as data -/
def pyR (l : List (List Int)) : PyData := .list (l.map pyT)
theorem can_pyR (l : List (List Int)) : (pyR l).canLay0 = true := canAll_map can_pyT l
theorem dep_pyR (l : List (List Int)) : (pyR l).depth ≤ 2 := by
  have h := depthAll_map (f := pyT) (n := 1) dep_pyT l
  show PyData.depthAll (l.map pyT) + 1 ≤ 2
  omega
section
variable {K : Frag} {H : Hp} {xs ys : List V} {l : List (List Int)} {a b : Addr} {Q : VK}
theorem RowsT.dps (h : RowsT H xs l) : DpAll K H xs (l.map pyT) := dpAll_get (by rw [h.1, List.length_map]) fun i x hx => by
  obtain ⟨q, ns, e1, rfl, e3⟩ := h.2 i x hx
  exact ⟨pyT ns, by rw [List.getElem?_map, e1]; rfl, dp_pyT (SqT.of e3)⟩
theorem RowsT.dp (h : RowsT H xs l) (hs : SqL K H a xs) : Dp K H (.ref a) (pyR l) := .lst hs h.dps
theorem a_eqRows (h : RowsT H xs l) (hs : SqL K H a xs) (g : RowsT H ys l) (gs : SqL K H b ys) (q : Q (.bl true) H) : rEqD K (.ref a) (.ref b) H Q := a_eqD (h.dp hs) (g.dp gs) (can_pyR l) (Nat.le_trans (dep_pyR l) (by decide)) q
theorem a_neRows (h : RowsT H xs l) (hs : SqL K H a xs) (g : RowsT H ys l) (gs : SqL K H b ys) (q : Q (.bl false) H) : rNeD K (.ref a) (.ref b) H Q := a_neD (h.dp hs) (g.dp gs) (can_pyR l) (Nat.le_trans (dep_pyR l) (by decide)) q
theorem a_isTup {p : Addr} {zs : List V} (h : H p = some (.tup zs)) (q : Q (.bl true) H) : rIsi K [.ref p, .ty "tuple"] H Q := ⟨_, _, .type "tuple", .type "tuple", true, rfl, .ty _, .base (.tup h), kit_ty (by decide +kernel), q⟩
/-- xs == [], rows -/
theorem a_eqRows0 (h : RowsT H xs l) (hs : SqL K H a xs) (gs : SqL K H b []) (q : Q (.bl l.isEmpty) H) : rEqD K (.ref a) (.ref b) H Q := by
  cases l with
  | nil => exact a_eqRows h hs (RowsT.nil H) gs q
  | cons x l => exact a_eqD' (h.dp hs) ((RowsT.nil H).dp gs) (can_pyR _) (Nat.le_trans (dep_pyR _) (by decide)) (can_pyR []) (by decide) rfl q
end
end R

/-! ## tricks that make pairs -/
namespace R
/-- a multiplier that makes all pairs -/
def goodT (B : Int) (l : List (Int × Int)) (t : Int) : Bool := l.all fun p => decide (p.1 / B + t * (p.1 % B) = p.2)
def tms (i : Nat) : List Int := (List.range i).map fun (j : Nat) => (j : Int) - 100
def facs (B : Int) (l : List (Int × Int)) : List Int := (tms 201).filter (goodT B l)
/-- rest, and what is left to be made of it -/
def rst (B : Int) (p : Int × Int) : Int × Int := (p.1 % B, p.2 - p.1 / B)
theorem goodT_rst {B t : Int} {l : List (Int × Int)} : goodT B l t = l.all fun p => decide ((rst B p).1 * t = (rst B p).2) := by
  unfold goodT rst
  congr 1
  funext p
  rw [Int.mul_comm (p.1 % B) t]
  exact decide_eq_decide.mpr ⟨fun h => by omega, fun h => by omega⟩
theorem tms_mem {t : Int} : t ∈ tms 201 ↔ -100 ≤ t ∧ t ≤ 100 := by
  unfold tms
  rw [List.mem_map]
  constructor
  · rintro ⟨j, hj, rfl⟩
    rw [List.mem_range] at hj
    omega
  · rintro ⟨h1, h2⟩
    exact ⟨(t + 100).toNat, List.mem_range.mpr (by omega), by omega⟩
theorem facs_none {B : Int} {l : List (Int × Int)} (h : ∀ t, -100 ≤ t → t ≤ 100 → goodT B l t = false) : facs B l = [] := by
  unfold facs
  rw [List.filter_eq_nil_iff]
  intro t ht
  have := tms_mem.mp ht
  rw [h t this.1 this.2]
  decide
theorem facs_zero {B : Int} {l : List (Int × Int)} (h : ∃ p ∈ l, (rst B p).1 = 0 ∧ (rst B p).2 ≠ 0) : facs B l = [] := by
  refine facs_none fun t _ _ => ?_
  obtain ⟨p, hp, h1, h2⟩ := h
  rw [goodT_rst, List.all_eq_false]
  refine ⟨p, hp, ?_⟩
  rw [h1, Int.zero_mul, decide_eq_true_iff]
  exact fun z => h2 z.symm
theorem facs_all {B : Int} {l : List (Int × Int)} (h : ∀ p ∈ l, (rst B p).1 = 0 ∧ (rst B p).2 = 0) : facs B l = tms 201 := by
  unfold facs
  rw [List.filter_eq_self]
  intro t _
  rw [goodT_rst, List.all_eq_true]
  intro p hp
  rw [(h p hp).1, (h p hp).2, Int.zero_mul]
  rfl
theorem filter_eq_one {t : Int} {p : Int → Bool} : ∀ {l : List Int}, l.Nodup → t ∈ l → (∀ x ∈ l, p x = decide (x = t)) → l.filter p = [t]
  | [], _, h, _ => by simp at h
  | x :: l, nd, h, hp => by
    rw [List.nodup_cons] at nd
    rw [List.filter_cons, hp x List.mem_cons_self]
    by_cases c : x = t
    · subst c
      rw [if_pos (decide_eq_true rfl), show l.filter p = [] from by
        rw [List.filter_eq_nil_iff]
        intro y hy
        rw [hp y (List.mem_cons_of_mem _ hy), decide_eq_true_iff]
        exact fun z => nd.1 (z ▸ hy)]
    · rw [if_neg (by rw [decide_eq_true_iff]; exact c)]
      refine filter_eq_one nd.2 ?_ fun y hy => hp y (List.mem_cons_of_mem _ hy)
      rcases List.mem_cons.mp h with z | z
      · exact absurd z.symm c
      · exact z
theorem nodup_map_sub : ∀ n : Nat, (tms n).Nodup
  | 0 => List.nodup_nil
  | n + 1 => by
    unfold tms
    rw [List.range_succ, List.map_append]
    refine List.nodup_append.mpr ⟨nodup_map_sub n, by simp, fun a ha b hb => ?_⟩
    obtain ⟨j, hj, rfl⟩ := List.mem_map.mp ha
    rw [List.mem_range] at hj
    have : b = (n : Int) - 100 := by simpa using hb
    omega
/-- the first pair with a rest tells the only multiplier -/
theorem facs_one {B : Int} {l : List (Int × Int)} {r s : Int} (hr : 0 < r) (hm : ∃ p ∈ l, rst B p = (r, s)) (hz : ∀ p ∈ l, (rst B p).1 = 0 → (rst B p).2 = 0) :
    facs B l = if (-100 ≤ s / r ∧ s / r ≤ 100) ∧ (∀ p ∈ l, (rst B p).1 ≠ 0 → (rst B p).1 * (s / r) = (rst B p).2) then [s / r] else [] := by
  have only : ∀ t, goodT B l t = true → t = s / r := fun t h => by
    rw [goodT_rst, List.all_eq_true] at h
    obtain ⟨p, hp, e⟩ := hm
    have q := of_decide_eq_true (h p hp)
    rw [e] at q
    have q : r * t = s := q
    rw [← q]
    exact (Int.mul_ediv_cancel_left t (by omega)).symm
  by_cases c : (-100 ≤ s / r ∧ s / r ≤ 100) ∧ (∀ p ∈ l, (rst B p).1 ≠ 0 → (rst B p).1 * (s / r) = (rst B p).2)
  · rw [if_pos c]
    have g : goodT B l (s / r) = true := by
      rw [goodT_rst, List.all_eq_true]
      intro p hp
      by_cases z : (rst B p).1 = 0
      · rw [z, hz p hp z, Int.zero_mul]; rfl
      · exact decide_eq_true (c.2 p hp z)
    refine filter_eq_one (nodup_map_sub 201) (tms_mem.mpr c.1) fun x _ => ?_
    cases e : goodT B l x with
    | true => rw [only x e]; exact (decide_eq_true rfl).symm
    | false =>
      symm
      rw [decide_eq_false_iff_not]
      rintro rfl
      rw [g] at e; cases e
  · rw [if_neg c]
    refine facs_none fun t h1 h2 => ?_
    cases e : goodT B l t with
    | false => rfl
    | true =>
      exfalso
      have z := only t e
      subst z
      refine c ⟨⟨h1, h2⟩, fun p hp _ => ?_⟩
      rw [goodT_rst, List.all_eq_true] at e
      exact of_decide_eq_true (e p hp)
/-- all tricks with a base and so many figures that make the pairs -/
def fitB (l : List (Int × Int)) (b k : Int) : List (List Int) := (facs (b ^ k.toNat) l).map fun t => [b, k, t]
def fitRow (l : List (Int × Int)) (b : Int) : Nat → List (List Int)
  | 0 => []
  | j + 1 => fitRow l b j ++ fitB l b (1 + (j : Int))
def fitAll (l : List (Int × Int)) : Nat → List (List Int)
  | 0 => []
  | i + 1 => fitAll l i ++ fitRow l (2 + (i : Int)) 2
theorem fitB_len (l : List (Int × Int)) (b k : Int) : (fitB l b k).length ≤ 201 := by
  unfold fitB facs tms
  rw [List.length_map]
  refine Nat.le_trans (List.length_filter_le _ _) ?_
  rw [List.length_map, List.length_range]
  exact Nat.le_refl _
theorem fitRow_len (l : List (Int × Int)) (b : Int) : ∀ j, (fitRow l b j).length ≤ 201 * j
  | 0 => Nat.le_refl 0
  | j + 1 => by
    have h1 := fitRow_len l b j
    have h2 := fitB_len l b (1 + (j : Int))
    rw [fitRow, List.length_append]; omega
theorem fitAll_len (l : List (Int × Int)) : ∀ i, (fitAll l i).length ≤ 402 * i
  | 0 => Nat.le_refl 0
  | i + 1 => by
    have h1 := fitAll_len l i
    have h2 := fitRow_len l (2 + (i : Int)) 2
    rw [fitAll, List.length_append]; omega
end R

/-! ## list(range(a, b)) -/
namespace R
open PySem PySem.Spec PyProof.Rows L2
theorem a_lstRg {te : L2.St → Hp → (Int → Int → Hp → Prop) → Prop} {σ : L2.St} {H : Hp} {Q : VK} (h : te σ H fun a b H1 => RgOk a b ∧ ∀ q, H1 q = none → Q (.ref q) (upd H1 q (.lst (rgV a b)))) : tLstRg te σ H Q := h
theorem a_rg2 {ta tb : TE} {σ : L2.St} {H : Hp} {Qr : Int → Int → Hp → Prop} (h : ta σ H fun x H1 => tb σ H1 fun y H2 => ∃ i j, x = .int i ∧ y = .int j ∧ Qr i j H2) : tRg2 ta tb σ H Qr := h
end R

namespace R
open PySem PySem.Spec PyProof.Rows L2
open PySem.W (Frag)
theorem a_rng3 {tr : TA} {σ : L2.St} {H : Hp} {RR : It → Hp → Prop} (h : tr σ H fun vs H1 => ∃ (i j c : Int) (n : Nat), vs = [.int i, .int j, .int c] ∧ RgC i j c n ∧ RR (Itc i c n) H1) : iRng3 tr σ H RR := h
theorem a_rngD {i j : Int} {A : Int → Int → Int → Nat → Prop} (h1 : -(2 ^ 62) ≤ i ∧ i < 2 ^ 62 ∧ -(2 ^ 62) ≤ j ∧ j < 2 ^ 62) (h : A i j (-1) (i - j).toNat) : ∃ (a b c : Int) (n : Nat), [V.int i, V.int j, V.int (-1)] = [.int a, .int b, .int c] ∧ RgC a b c n ∧ A a b c n :=
  ⟨i, j, -1, _, rfl, RgC.neg h1.1 h1.2.1 h1.2.2.1 h1.2.2.2, h⟩
/-! ## the greatest number that gets no less -/
def grows (b k t s : Int) : Prop := s ≤ ((beh b k t s).natAbs : Int) ∨ s ≤ ((beh b k t (-s)).natAbs : Int)
def wideN (b k t : Int) : Int := (1 + (t.natAbs : Int) * (b ^ k.toNat - 1)) * b ^ k.toNat / (b ^ k.toNat - 1) + 2
theorem less_far {B t s n : Int} (hB : 2 ≤ B) (hs : (1 + (t.natAbs : Int) * (B - 1)) * B / (B - 1) + 2 < s) (h1 : -s ≤ n) (h2 : n ≤ s) : ((n / B + t * (n % B)).natAbs : Int) < s := by
  have r0 := Int.emod_nonneg n (show B ≠ 0 by omega)
  have r1 := Int.emod_lt_of_pos n (show 0 < B by omega)
  have e := Int.mul_ediv_add_emod n B
  generalize n / B = q at *
  generalize n % B = r at *
  have a0 : 0 ≤ (t.natAbs : Int) := by omega
  have a1 : -(t.natAbs : Int) ≤ t := by omega
  have a2 : t ≤ (t.natAbs : Int) := by omega
  generalize (t.natAbs : Int) = a at *
  have u1 : t * r ≤ a * (B - 1) := Int.le_trans (Int.mul_le_mul_of_nonneg_right a2 r0) (Int.mul_le_mul_of_nonneg_left (by omega) a0)
  have u2 : -(a * (B - 1)) ≤ t * r := by
    have z1 : (-a) * r ≤ t * r := Int.mul_le_mul_of_nonneg_right a1 r0
    have z2 : a * r ≤ a * (B - 1) := Int.mul_le_mul_of_nonneg_left (by omega) a0
    rw [Int.neg_mul] at z1
    omega
  have T0 : 0 ≤ a * (B - 1) := Int.mul_nonneg a0 (by omega)
  generalize a * (B - 1) = T at *
  generalize t * r = u at *
  have w := Int.lt_mul_of_ediv_lt (a := (1 + T) * B) (b := s - 2) (c := B - 1) (by omega) (by omega)
  have e1 : (1 + T) * B = B + B * T := by rw [Int.add_mul, Int.one_mul, Int.mul_comm T]
  have e2 : (s - 2) * (B - 1) = B * s - s - 2 * B + 2 := by
    rw [Int.sub_mul, Int.mul_sub, Int.mul_sub, Int.mul_one, Int.mul_comm s B]; omega
  rw [e1, e2] at w
  have v1 : B * u ≤ B * T := Int.mul_le_mul_of_nonneg_left u1 (by omega)
  have v2 : B * (-T) ≤ B * u := Int.mul_le_mul_of_nonneg_left u2 (by omega)
  rw [Int.mul_neg] at v2
  have c1 : B * (q + u) < B * s := by rw [Int.mul_add]; omega
  have c2 : B * (-s) < B * (q + u) := by rw [Int.mul_add, Int.mul_neg]; omega
  have d1 := Int.lt_of_mul_lt_mul_left c1 (by omega)
  have d2 := Int.lt_of_mul_lt_mul_left c2 (by omega)
  omega
theorem grows_far {b k t s : Int} (hB : 2 ≤ b ^ k.toNat) (hs : wideN b k t < s) : ¬ grows b k t s := by
  unfold wideN at hs
  have s0 : 0 ≤ s := by
    have z : 0 ≤ (1 + (t.natAbs : Int) * (b ^ k.toNat - 1)) * b ^ k.toNat / (b ^ k.toNat - 1) := by
      refine Int.ediv_nonneg (Int.mul_nonneg ?_ (by omega)) (by omega)
      have := Int.mul_nonneg (show 0 ≤ (t.natAbs : Int) by omega) (show 0 ≤ b ^ k.toNat - 1 by omega)
      omega
    omega
  have h1 := less_far (t := t) (n := s) hB hs (by omega) (by omega)
  have h2 := less_far (t := t) (n := -s) hB hs (by omega) (by omega)
  unfold grows beh
  omega
structure BoundOf (b k t m : Int) : Prop where
  low : 0 ≤ m
  high : m ≤ wideN b k t
  hit : 0 < m → grows b k t m
  all : ∀ s, m < s → ¬ grows b k t s
theorem wide_small {b k t : Int} (hB : 2 ≤ b ^ k.toNat ∧ b ^ k.toNat ≤ 256) (ht : -100 ≤ t ∧ t ≤ 100) : 2 ≤ wideN b k t ∧ wideN b k t ≤ 10000000 := by
  unfold wideN
  generalize b ^ k.toNat = B at *
  have a0 : 0 ≤ (t.natAbs : Int) := by omega
  have a1 : (t.natAbs : Int) ≤ 100 := by omega
  generalize (t.natAbs : Int) = a at *
  have T0 : 0 ≤ a * (B - 1) := Int.mul_nonneg a0 (by omega)
  have T1 : a * (B - 1) ≤ 100 * 255 := Int.mul_le_mul a1 (by omega) (by omega) (by omega)
  generalize a * (B - 1) = T at *
  have W0 : 0 ≤ (1 + T) * B := Int.mul_nonneg (by omega) (by omega)
  have W1 : (1 + T) * B ≤ 25501 * 256 := Int.mul_le_mul (by omega) hB.2 (by omega) (by omega)
  generalize (1 + T) * B = W at *
  have d0 : 0 ≤ W / (B - 1) := Int.ediv_nonneg W0 (by omega)
  have d1 : W / (B - 1) ≤ W := Int.ediv_le_self _ W0
  omega
end R

namespace R
/-- the powers of B by their rests -/
def pw (B d : Nat) : Nat → Nat
  | 0 => 1 % d
  | i + 1 => pw B d i * B % d
def runP (B d : Nat) : Nat → Nat → List Nat
  | 0, x => [x]
  | n + 1, x => x :: runP B d n (x * B % d)
def okP : List Nat → Bool
  | [] => true
  | [_] => true
  | x :: y :: l => okQ x y (y :: l) && okP (y :: l)
where okQ (x y : Nat) : List Nat → Bool
  | u :: v :: l => (y != v || x == u) && okQ x y (v :: l)
  | _ => true
def allP : Bool := (List.range 31).all fun d => (List.range 31).all fun r => okP (runP r d 15 (pw r d 5))
theorem allP_ok : allP = true := by decide +kernel
end R
namespace R
theorem okQ_imp {x y : Nat} : ∀ {M : List Nat} (_ : okP.okQ x y M = true) (k : Nat) (h : k + 1 < M.length), y = M[k + 1] → x = M[k]
  | [], _, k, h, _ => by simp at h
  | [_], _, k, h, _ => by simp at h
  | u :: v :: l, o, 0, _, e => by
    unfold okP.okQ at o
    rw [Bool.and_eq_true] at o
    have q := o.1
    simp only [List.getElem_cons_succ, List.getElem_cons_zero] at e ⊢
    simpa [e] using q
  | u :: v :: l, o, k + 1, h, e => by
    unfold okP.okQ at o
    rw [Bool.and_eq_true] at o
    exact okQ_imp (M := v :: l) o.2 k (by simpa using h) e
theorem okP_imp : ∀ {L : List Nat} (_ : okP L = true) (a c : Nat) (_ : a < c) (h : c + 1 < L.length), L[a + 1] = L[c + 1] → L[a] = L[c]
  | [], _, a, c, _, h, _ => by simp at h
  | [_], _, a, c, _, h, _ => by simp at h
  | x :: y :: l, o, 0, c + 1, _, h, e => by
    unfold okP at o
    rw [Bool.and_eq_true] at o
    exact okQ_imp o.1 c (by simpa using h) e
  | x :: y :: l, o, a + 1, c + 1, hac, h, e => by
    unfold okP at o
    rw [Bool.and_eq_true] at o
    exact okP_imp (L := y :: l) o.2 a c (by omega) (by simpa using h) e
theorem pw_mod (B d : Nat) : ∀ i, pw (B % d) d i = pw B d i
  | 0 => rfl
  | i + 1 => by
    show pw (B % d) d i * (B % d) % d = pw B d i * B % d
    rw [pw_mod B d i, Nat.mul_mod, Nat.mod_mod, ← Nat.mul_mod]
theorem runP_len (B d : Nat) : ∀ n x, (runP B d n x).length = n + 1
  | 0, _ => rfl
  | n + 1, x => by show (runP B d n _).length + 1 = n + 1 + 1; rw [runP_len B d n]
theorem runP_at (B d : Nat) : ∀ (n s k : Nat) (h : k < (runP B d n (pw B d s)).length), (runP B d n (pw B d s))[k] = pw B d (s + k)
  | 0, s, k, h => by
    have e : k = 0 := by
      have : k < 1 := h
      omega
    subst e; rfl
  | n + 1, s, 0, h => rfl
  | n + 1, s, k + 1, h => by
    have q := runP_at B d n (s + 1) k (by rw [runP_len] at h ⊢; omega)
    rw [show s + (k + 1) = s + 1 + k by omega]
    exact q
/-- how many powers stand ahead of those that come again -/
theorem few {B d i j : Nat} (hd : d ≤ 30) (hd0 : 0 < d) (hi : i ≤ 20) (hj : j < i) (e : pw B d j = pw B d i) (dis : ∀ a b, a < b → b < i → pw B d a ≠ pw B d b) : j ≤ 5 := by
  by_cases c : j ≤ 5
  · exact c
  · exfalso
    have hr : B % d < d := Nat.mod_lt _ hd0
    have o := allP_ok
    unfold allP at o
    rw [List.all_eq_true] at o
    have o1 := o d (List.mem_range.mpr (by omega))
    rw [List.all_eq_true] at o1
    have o2 := o1 (B % d) (List.mem_range.mpr (by omega))
    have q := okP_imp o2 (j - 6) (i - 6) (by omega) (by rw [runP_len]; omega)
    rw [runP_at, runP_at, runP_at, runP_at, pw_mod, pw_mod, pw_mod, pw_mod] at q
    rw [show 5 + (j - 6 + 1) = j by omega, show 5 + (i - 6 + 1) = i by omega, show 5 + (j - 6) = j - 1 by omega, show 5 + (i - 6) = i - 1 by omega] at q
    exact dis (j - 1) (i - 1) (by omega) (by omega) (q e)
end R

/-! ## lists of ints: in, index, slices -/
namespace R
open PySem PySem.Spec PyProof.Rows L2
open PySem.W (Frag)
theorem flat_ints (ms : List Int) : (ms.map V.int).all flatV = true := by
  rw [List.all_map]; exact List.all_eq_true.mpr fun _ _ => rfl
theorem inV_ints (r : Int) (ms : List Int) : inV (.int r) (ms.map V.int) = decide (r ∈ ms) := by
  unfold inV
  rw [List.any_map, Bool.eq_iff_iff, List.any_eq_true, decide_eq_true_iff]
  constructor
  · rintro ⟨x, hx, e⟩
    have e : (x == r) = true := e
    rw [beq_iff_eq] at e
    rw [← e]; exact hx
  · intro h
    exact ⟨r, h, by show (r == r) = true; exact beq_self_eq_true r⟩
section
variable {K : Frag} {B H : Hp} {Lw : List (Addr × HO)} {p : Addr} {r : Int} {ms : List Int} {Q : VK}
theorem a_inI (hs : SqL K H p (ms.map V.int)) (h : Q (.bl (decide (r ∈ ms))) H) : rIn K false (.int r) (.ref p) H Q :=
  ⟨p, _, rfl, .inl hs, rfl, flat_ints ms, by show Q (.bl (inV _ _)) H; rw [inV_ints]; exact h⟩
theorem a_ninI (hs : SqL K H p (ms.map V.int)) (h : Q (.bl (!decide (r ∈ ms))) H) : rIn K true (.int r) (.ref p) H Q :=
  ⟨p, _, rfl, .inl hs, rfl, flat_ints ms, by show Q (.bl (!inV _ _)) H; rw [inV_ints]; exact h⟩
theorem a_indexI {j : Nat} (hs : SqL K H p (ms.map V.int)) (hj : ms[j]? = some r) (hm : ∀ (m : Nat) (z : Int), m < j → ms[m]? = some z → z ≠ r) (h : Q (.int (j : Nat)) H) : rIndex K (.ref p) [.int r] H Q :=
  ⟨p, _, .int r, j, .int r, rfl, rfl, hs, rfl, flat_ints ms, by rw [List.getElem?_map, hj]; rfl, by show (r == r) = true; exact beq_self_eq_true r, fun m z' hm' e => by
    rw [List.getElem?_map] at e
    cases q : ms[m]? with
    | none => rw [q] at e; cases e
    | some z =>
      rw [q] at e
      have e : V.int z = z' := Option.some.inj e
      rw [← e]
      show (z == r) = false
      exact beq_eq_false_iff_ne.mpr (hm m z hm' q), h⟩
theorem cut_to (ms : List Int) (k : Nat) : cutV (ms.map V.int) none (some (k : Int)) = (ms.take k).map V.int := by
  unfold cutV
  rw [HT.sIx_none, HT.sIx_nat, List.drop_zero, Nat.sub_zero, List.map_take]
  by_cases c : k ≤ (ms.map V.int).length
  · rw [Nat.min_eq_left c]
  · rw [Nat.min_eq_right (by omega), List.take_of_length_le (by omega), List.take_of_length_le (by omega)]
theorem cut_from (ms : List Int) (k : Nat) : cutV (ms.map V.int) (some (k : Int)) none = (ms.drop k).map V.int := by
  unfold cutV
  rw [HT.sIx_none, HT.sIx_nat, List.map_drop]
  by_cases c : k ≤ (ms.map V.int).length
  · rw [Nat.min_eq_left c]
    exact List.take_of_length_le (by rw [List.length_drop]; omega)
  · rw [Nat.min_eq_right (by omega), List.drop_of_length_le (by omega), List.drop_of_length_le (by omega), List.take_nil]
theorem a_slTo {k : Nat} {n : Int} (hn : n = (k : Int)) (O : Own B Lw H) (hs : SqL K H p (ms.map V.int)) (q : ∀ l H', H l = none → Own B ((l, .lst ((ms.take k).map V.int)) :: Lw) H' → Q (.ref l) H') : rSlL K (.ref p) none (some n) H Q := by
  subst hn
  exact ⟨p, _, rfl, hs, fun l hl => by rw [cut_to]; exact q l _ hl (O.new hl)⟩
theorem a_slFrom {k : Nat} {n : Int} (hn : n = (k : Int)) (O : Own B Lw H) (hs : SqL K H p (ms.map V.int)) (q : ∀ l H', H l = none → Own B ((l, .lst ((ms.drop k).map V.int)) :: Lw) H' → Q (.ref l) H') : rSlL K (.ref p) (some n) none H Q := by
  subst hn
  exact ⟨p, _, rfl, hs, fun l hl => by rw [cut_from]; exact q l _ hl (O.new hl)⟩
end
theorem first_in {r : Int} : ∀ {ms : List Int}, r ∈ ms → ∃ j : Nat, ms[j]? = some r ∧ ∀ (m : Nat) (z : Int), m < j → ms[m]? = some z → z ≠ r
  | [], h => by simp at h
  | x :: l, h => by
    by_cases c : x = r
    · exact ⟨0, by rw [c]; rfl, fun m z hm => by omega⟩
    · rcases List.mem_cons.mp h with z | z
      · exact absurd z.symm c
      · obtain ⟨j, h1, h2⟩ := first_in z
        refine ⟨j + 1, h1, fun m z hm e => ?_⟩
        cases m with
        | zero =>
          have e : x = z := Option.some.inj e
          rw [← e]; exact c
        | succ m => exact h2 m z (by omega) e
/-- the powers' rests as ints -/
def PL (B d i : Nat) : List Int := (List.range i).map fun j => ((pw B d j : Nat) : Int)
theorem PL_succ (B d i : Nat) : PL B d (i + 1) = PL B d i ++ [((pw B d i : Nat) : Int)] := by
  unfold PL
  rw [List.range_succ, List.map_append]; rfl
theorem PL_len (B d i : Nat) : (PL B d i).length = i := by unfold PL; rw [List.length_map, List.length_range]
theorem PL_at {B d i j : Nat} (h : j < i) : (PL B d i)[j]? = some ((pw B d j : Nat) : Int) := by
  unfold PL
  rw [List.getElem?_map, List.getElem?_range h]; rfl
theorem PL_mem {B d i : Nat} {x : Int} (h : x ∈ PL B d i) : ∃ j, j < i ∧ x = ((pw B d j : Nat) : Int) := by
  obtain ⟨j, h1, h2⟩ := List.mem_map.mp h
  exact ⟨j, List.mem_range.mp h1, h2.symm⟩
theorem pw_lt {B d : Nat} (hd : 0 < d) : ∀ i, pw B d i < d
  | 0 => Nat.mod_lt _ hd
  | i + 1 => Nat.mod_lt _ hd
theorem PL_bd {B d i : Nat} (hd : 0 < d) {x : Int} (h : x ∈ PL B d i) : 0 ≤ x ∧ x < d := by
  obtain ⟨j, _, rfl⟩ := PL_mem h
  have := pw_lt (B := B) hd j
  omega
theorem pw_zero (B d : Nat) : (1 : Int) % (d : Int) = ((pw B d 0 : Nat) : Int) := rfl
theorem pw_next (B d i : Nat) : ((pw B d i : Nat) : Int) * (B : Int) % (d : Int) = ((pw B d (i + 1) : Nat) : Int) := rfl
end R

/-! ## sets of ints, however many: set(xs), sorted, len -/
namespace R
open PySem PySem.Spec PyProof.Rows L2
open PySem.W (Frag)
/-- a set with nothing in it -/
abbrev noSet (w : World) : Obj := { cls := .type "set", dict := none, data := .set #[] 0 (.fresh 0 0 (!w.params.followText "set-order")) }
section
variable {P : Program} {w : World} {A : Around} {E : Value → Shared → Prop} {s : Shared}
set_option maxRecDepth 100000 in
set_option maxHeartbeats 3200000 in
theorem set_of_list {l : Addr} {its : Array Value} (ns : List Int) {Q : Value → Shared → Prop} (hh : A.handled = none) (hl : s.heap.IsList l its) (hi : IntsAre its.toList ns) (hb : ns.length + 1 < scanBound)
    (h : ∀ (H : Heap) (k c : Nat), SetR w H s.heap.objs.size (fun j => decide (j ∈ ns)) c → c ≤ ns.length → (∀ b o, s.heap.get? b = some o → H.get? b = some o) → Q (.ref s.heap.objs.size) { s with heap := H, toks := k }) :
    wpAny (model P w) A (call (.type "set") [.ref l]) Q E s := by
  have nlen : its.size = ns.length := Array.length_toList.symm.trans (IntsAre.length hi)
  obtain ⟨c0, t0, mro0⟩ := F.called_set.mro
  have made0 := F.called_set.made
  have sub0 := F.called_set.sub
  have ty0 := F.called_set.notType
  have can0 := F.called_set.canCreate
  have tc0 := F.typeCall_set_1 (.ref l)
  have init0 := F.called_set.init.lookup
  have bind0 := F.called_set.init.bind (.ref s.heap.objs.size)
  refine wpAny_call (codeAny_of_tree ?_)
  show wpAny _ _ (callAny (.type "set") _) _ _ _
  refine wpAny_pure ⟨Code.quiet_builtin _ (by decide +kernel), ?_⟩
  refine codeAny_builtin F.entry_type_call ?_
  rw [Around.under_plain (weight_type_call_type "set" [.ref l] []) rfl]
  repeat (any_goals (first | assumption | wp_step))
  have nw := code_set_led1 (P := P) (w := w) (A := A.in1) (s := s) (E := E) (.ref l) (Q₁ := fun v t => v = .ref s.heap.objs.size ∧ t = { s with heap := s.heap.push (noSet w) }) ⟨rfl, rfl⟩
  refine codeAny_mono nw fun r t hr => ?_
  rcases r with e | fl
  · exact hr
  rcases fl with _ | _ | _ | v
  all_goals (try exact hr.elim)
  obtain ⟨rfl, rfl⟩ := hr
  have at1 : (s.heap.push (noSet w)).get? s.heap.objs.size = some (noSet w) := Heap.get?_push_size _ rfl
  have ty1 : Shared.TypeIs { s with heap := s.heap.push (noSet w) } (.ref s.heap.objs.size) "set" := ⟨_, at1, rfl⟩
  repeat (any_goals (first | assumption | wp_step))
  have fill : codeAny (model P w) A.in1 (.call (.builtin "set.__init__") ⟨[.ref s.heap.objs.size, .ref l], []⟩) (wants (fun r t => r = .none ∧ ∃ H k c, t = { s with heap := H, toks := k } ∧ SetR w H s.heap.objs.size (fun j => decide (j ∈ ns)) c ∧ c ≤ ns.length ∧ (∀ b o, s.heap.get? b = some o → H.get? b = some o)) E) { s with heap := s.heap.push (noSet w) } := by
    refine codeAny_call_builtin F.called_set.init.plain F.entry_set_init (check_set_init_1 ty1 ?_)
    obtain ⟨⟨oc, od, odt, osl⟩, at0, c1, n1, d1⟩ := hl
    simp only at c1 d1
    subst c1
    subst d1
    have at2 := Heap.get?_push_of_some (noSet w) at0
    have isl : (s.heap.push (noSet w)).IsList l its := ⟨_, at2, rfl, n1, rfl⟩
    have no1 := F.sub_list_set
    have no2 := F.sub_list_frozenset
    have no3 : (Value.type "list" == Value.type "dict") = false := by decide
    unfold Builtin.«set.__init__» noKeywords Builtin.Frozenset.updateFrom
    generalize hit : pyIter = it
    wp_walk
    subst hit
    refine wpAny_pyIter_list isl ?_
    refine wpAny_bind (wpAny_runValue ?_)
    have lS : l < s.heap.objs.size := Heap.lt_size at0
    have hh3 : A.in1.in1.in1.handled = none := by simp [hh]
    have sz : (s.heap.push (noSet w)).objs.size = s.heap.objs.size + 1 := Heap.size_push ..
    have ne1 : l ≠ (s.heap.push (noSet w)).objs.size := by rw [sz]; exact Nat.ne_of_lt (Nat.lt_succ_of_lt lS)
    have ne2 : s.heap.objs.size ∉ [(s.heap.push (noSet w)).objs.size, l] := fun z => by
      rcases List.mem_cons.mp z with z | z
      · exact absurd (z.trans sz) (Nat.ne_of_lt (Nat.lt_succ_self _))
      · exact absurd (List.mem_singleton.mp z) (Nat.ne_of_gt lS)
    have vals : ∀ (i : Nat) (v : Value), its[i]? = some v → ∃ k t, ns[i]? = some k ∧ v = .int k t := fun i v hv => by
      have hi2 : i < ns.length := nlen ▸ (Array.getElem?_eq_some_iff.mp hv).1
      obtain ⟨t, e⟩ := IntsAre.int_at hi i v (by rw [Array.getElem?_toList]; exact hv)
      refine ⟨ns[i], t, List.getElem?_eq_getElem hi2, ?_⟩
      rw [e, List.getD_eq_getElem?_getD, List.getElem?_eq_getElem hi2] <;> rfl
    have W := (Walks.list hh3 (prog := P) (w := w) _ l ne1 its).toS
    refine set_update_ints W s.heap.objs.size ne2 ns nlen hb vals (its.size - 0) 0 _ (by omega) (Nat.zero_le _) ⟨⟨_, Heap.get?_push_size _ rfl, rfl, rfl⟩, isl.push _⟩ ⟨0, Nat.le_refl 0, setR_new_at (Heap.get?_push_of_some _ at1)⟩ fun t c hm hc hS => ?_
    obtain ⟨H, g, d, k, os⟩ := t
    obtain rfl : g = s.gens := hm.gens
    obtain rfl : d = s.drawn := hm.drawn
    obtain rfl : os = s.os := hm.os
    show wpAny _ _ _ _ _ _
    refine wpAny_pure ?_
    show wpAny _ _ (ret Value.none) _ _ _
    refine wpAny_pure ⟨rfl, H, k, c, rfl, hS, nlen ▸ hc, fun b o e => ?_⟩
    have b0 : b < s.heap.objs.size := Heap.lt_size e
    refine hm.heap b o ?_ (Heap.get?_push_of_some _ (Heap.get?_push_of_some _ e))
    intro z
    rcases List.mem_cons.mp z with z | z
    · exact Nat.ne_of_lt b0 z
    · exact Nat.ne_of_lt (Nat.lt_succ_of_lt b0) ((List.mem_singleton.mp z).trans sz)
  refine codeAny_mono fill fun r t hr => ?_
  rcases r with e | fl
  · exact hr
  rcases fl with _ | _ | _ | v
  all_goals (try exact hr.elim)
  obtain ⟨rfl, H, k, c, rfl, hS, hc, hk⟩ := hr
  repeat (any_goals (first | assumption | wp_step))
  exact h _ _ _ hS hc hk
end
end R
namespace R
open PySem PySem.Spec PyProof.Rows L2
open PySem.W (Frag)
section
variable {P : Program} {w : World} {A : Around} {E : Value → Shared → Prop} {s : Shared}
/-- sorted(a set), however many -/
theorem sorted_of_set {a : Addr} {S : Int → Bool} {n : Nat} {Q : Value → Shared → Prop} (R : SetR w s.heap a S n) (hh : A.handled = none)
    (h : ∀ t p (out : Array Value) (c : Nat) (ns : List Int), (∀ b o, s.heap.get? b = some o → t.heap.get? b = some o) → t.gens = s.gens → t.os = s.os → s.heap.objs.size ≤ p →
      t.heap.get? p = some (seqObj "list" out c) → IntsAre out.toList ns → ns.Pairwise (· < ·) → (∀ k, k ∈ ns ↔ S k = true) → ns.length ≤ sizeLine → Q (.ref p) t) :
    wpAny (model P w) A (call (.builtin "sorted") [.ref a]) Q E s := by
  obtain ⟨o, es, ep, t, ho, hex, hd, g, nd, hm, hb, hf, hn, hr, hl⟩ := R
  refine Calls.call_function_entry kind_sorted plain_sorted entry_sorted (args_sorted1 _) ?_
  unfold Builtin.«sorted»
  refine wpAny_bind (m := checkCount "sorted" 1 1 _) (wpAny_pure ?_)
  refine wpAny_bind (collect_set (A := A.in1) hh ⟨o, ho, hex.1, hd⟩ hf hb hr hl fun s1 vs k1 hz g1 o1 pm => ?_)
  have small : vs.length ≤ sizeLine := by
    rw [pm.length_eq, List.length_map, Array.length_toList]
    exact fits_of_scanBound hb
  have are : IntsAre vs (vs.map Builtin.Re.reRawOf) := ints_of vs fun v hv => by
    obtain ⟨e, he, q⟩ := List.mem_map.mp (pm.mem_iff.mp hv)
    obtain ⟨k, tk, h1, _⟩ := g e he
    exact ⟨k, tk, q.symm.trans h1⟩
  have pk : (vs.map Builtin.Re.reRawOf).Perm (es.toList.map keyOf) := by
    have q := pm.map Builtin.Re.reRawOf
    rw [List.map_map] at q
    exact q
  refine wpAny_bind (wpAny_newList ?_ small)
  have hoL : (s1.heap.push (seqObj "list" vs.toArray 0)).get? s1.heap.objs.size = some (seqObj "list" vs.toArray 0) := Heap.get?_push_size _ rfl
  have fin : ∀ out : List Value, SrtO.Srtd SrtO.ltIv out → SrtO.Stb SrtO.ltIv out vs → Q (.ref s1.heap.objs.size) { s1 with heap := sortedHeap (s1.heap.push (seqObj "list" vs.toArray 0)) s1.heap.objs.size vs out.toArray } := fun out h1 h2 => by
    obtain ⟨k1', k2', k3'⟩ := SrtO.ints_out are h1 h2
    obtain ⟨c, hc⟩ := sortedHeap_at (vs := vs) (out := out.toArray) hoL
    have pn := k2'.trans pk
    refine h _ _ out.toArray c (out.map SrtO.iv) (fun b u e => ?_) g1 o1 hz hc (by simpa using k1') (L2.lt_of_le_nodup _ k3' (pn.nodup_iff.mpr nd)) (fun k => by rw [pn.mem_iff, ← hm k]) (by rw [k2'.length_eq, List.length_map]; exact small)
    have q := k1 b u e
    have lt := Heap.lt_size q
    show (sortedHeap (s1.heap.push (seqObj "list" vs.toArray 0)) s1.heap.objs.size vs out.toArray).get? b = some u
    rw [sortedHeap_old (Nat.ne_of_lt lt) (by rw [size_push']; exact Nat.lt_succ_of_lt lt)]
    exact Heap.get?_push_of_some _ q
  refine wpAny_bind (wpAny_holding ?_)
  refine wpAny_call_entry slot_list_sort ⟨_, hoL, rfl⟩ entry_list_sort ?_ (args_list_sort _)
  refine SrtO.list_sort_ord SrtO.swo_int hoL small (fun h2 => SrtO.ints_sortable are h2) fun out h1 h2 => ⟨_, rfl, ?_⟩
  exact wpAny_pure ⟨_, rfl, fin out h1 h2⟩
end
/-- set(xs) of a list of ints: L its members -/
def rSetI (K : Frag) (w : World) : List V → Hp → VK → Prop := fun vs H Q => ∃ (a : Addr) (ns : List Int), vs = [.ref a] ∧ (SqL K H a (ns.map V.int) ∨ SqT K H a (ns.map V.int)) ∧ ns.length ≤ 4000 ∧
  ∀ (p : Addr) (L : List Int), H p = none → L.Nodup → (∀ k, k ∈ L ↔ k ∈ ns) → Q (.ref p) (upd H p (SetO w p (fun j => decide (j ∈ ns)) L.length))
def rSortedSetN (w : World) : List V → Hp → VK → Prop := fun vs H Q => ∃ (a : Addr) (S : Int → Bool) (n : Nat), vs = [.ref a] ∧ H a = some (SetO w a S n) ∧
  ∀ (ns : List Int) (p : Addr), ns.Pairwise (· < ·) → (∀ k, k ∈ ns ↔ S k = true) → H p = none → Q (.ref p) (upd H p (.lst (ns.map V.int)))
def rLenSet (w : World) : List V → Hp → VK → Prop := fun vs H Q => ∃ (a : Addr) (S : Int → Bool) (n : Nat), vs = [.ref a] ∧ H a = some (SetO w a S n) ∧ Q (.int (n : Nat)) H
theorem setR_list {w : World} {h : Heap} {a : Addr} {ns : List Int} {n : Nat} (r : SetR w h a (fun j => decide (j ∈ ns)) n) : ∃ L : List Int, L.Nodup ∧ (∀ k, k ∈ L ↔ k ∈ ns) ∧ L.length = n := by
  obtain ⟨_, es, _, _, _, _, _, _, nd, hm, _, _, hn, _⟩ := r
  refine ⟨_, nd, fun k => ?_, ?_⟩
  · have q := hm k
    rw [decide_eq_true_iff] at q
    exact q.symm
  · rw [List.length_map, Array.length_toList]; exact hn
section
variable {X : Cx}
theorem cr_setI (hc : X.calm = true) : CallR X (.type "set") (rSetI X.K X.w) := by
  intro pins s σ H vs us Q I r h
  obtain ⟨a, ns, rfl, hs, hl, q⟩ := h
  rw [Vals.ref1 r]
  have hb : ns.length + 1 < scanBound := by show ns.length + 1 < 4096; omega
  have fin : ∀ (h' : Heap) (tk c : Nat), SetR X.w h' s.heap.objs.size (fun j => decide (j ∈ ns)) c → c ≤ ns.length → (∀ b o, s.heap.get? b = some o → h'.get? b = some o) → EP X pins σ Q (.ref s.heap.objs.size) { s with heap := h', toks := tk } := fun h' tk c R1 _ k => by
    obtain ⟨L, l1, l2, rfl⟩ := setR_list R1
    exact ⟨.ref _, _, I.laid (t' := tk) k (Nat.le_refl _) (setO_new R1), rfl, q _ L (I.hok.fresh (Nat.le_refl _)) l1 l2⟩
  rcases hs with hs | hs
  · obtain ⟨its, rv, pl, hz⟩ := I.list hs
    exact set_of_list ns (I.ok.hd hc) pl.isList (by simpa using rv.ints) hb fin
  · obtain ⟨its, rv, pt, hz⟩ := I.tuple hs
    exact call_set_tupI ns (I.ok.hd hc) pt (by simpa using rv.ints) hb fin
theorem cr_sortedSetN (hc : X.calm = true) : CallR X (.builtin "sorted") (rSortedSetN X.w) := by
  intro pins s σ H vs us Q I r h
  obtain ⟨a, S, n, rfl, ha, q⟩ := h
  have R := setO_get I ha
  rw [Vals.ref1 r]
  refine sorted_of_set R (I.ok.hd hc) fun t p out c ns k g o hp hg hi up mem hl => ?_
  have hn : H p = none := I.hok.fresh hp
  have J : Inv X pins σ (upd H p (.lst (ns.map V.int))) { s with heap := t.heap, gens := t.gens, drawn := t.drawn, toks := t.toks } :=
    I.call (ch := []) (Un.laid k hp hn) (I.hok.laid k hp ⟨by rw [List.length_map]; exact hl, out.toList, c, vals_of_ints hi, hg⟩) (by rw [g]; exact I.bare) (fun _ z => nomatch z)
  have e : t = { s with heap := t.heap, gens := t.gens, drawn := t.drawn, toks := t.toks } := by
    cases t
    cases s
    cases o
    rfl
  rw [e]
  exact ⟨.ref p, _, J, rfl, q ns p up mem hn⟩
theorem cr_lenSet : CallR X (.builtin "len") (rLenSet X.w) := by
  intro pins s σ H vs us Q I r h
  obtain ⟨a, S, n, rfl, ha, q⟩ := h
  obtain ⟨o, es, ep, t, ho, hex, hd, _, _, _, hb, hf, hn, _⟩ := setO_get I ha
  rw [Vals.ref1 r]
  have hb2 : es.size < 4096 := hb
  exact call_len_set ho hex hd hf (by omega) ⟨.int (n : Nat), H, I.tok _, ⟨_, by rw [← hn]⟩, q⟩
end
section
variable {K : Frag} {w : World} {B H : Hp} {Lw : List (Addr × HO)} {a : Addr} {ns : List Int} {Q : VK}
theorem a_setI (O : Own B Lw H) (hs : SqL K H a (ns.map V.int) ∨ SqT K H a (ns.map V.int)) (hl : ns.length ≤ 4000)
    (q : ∀ (p : Addr) (L : List Int) H', L.Nodup → (∀ k, k ∈ L ↔ k ∈ ns) → Own B ((p, SetO w p (fun j => decide (j ∈ ns)) L.length) :: Lw) H' → Q (.ref p) H') : rSetI K w [V.ref a] H Q :=
  ⟨a, ns, rfl, hs, hl, fun p L hp h1 h2 => q p L _ h1 h2 (O.new hp)⟩
theorem a_sortedSet {S : Int → Bool} {n : Nat} (O : Own B Lw H) (i : Nat) (hi : Lw[i]? = some (a, SetO w a S n))
    (q : ∀ (ms : List Int) (p : Addr) H', ms.Pairwise (· < ·) → (∀ k, k ∈ ms ↔ S k = true) → Own B ((p, .lst (ms.map V.int)) :: Lw) H' → Q (.ref p) H') : rSortedSetN w [V.ref a] H Q :=
  ⟨a, S, n, rfl, O.get i hi, fun ms p h1 h2 hp => q ms p _ h1 h2 (O.new hp)⟩
theorem a_lenSet {S : Int → Bool} {n : Nat} (O : Own B Lw H) (i : Nat) (hi : Lw[i]? = some (a, SetO w a S n)) (q : Q (.int (n : Nat)) H) : rLenSet w [V.ref a] H Q := ⟨a, S, n, rfl, O.get i hi, q⟩
end
end R

/-! ## rings: plain law -/
namespace R
theorem nodup_leR {α : Type} [DecidableEq α] : ∀ {l D : List α}, l.Nodup → (∀ x, x ∈ l → x ∈ D) → l.length ≤ D.length
  | [], _, _, _ => Nat.zero_le _
  | x :: l, D, nd, h => by
    rw [List.nodup_cons] at nd
    have hx := h x List.mem_cons_self
    have q := nodup_leR (l := l) (D := D.erase x) nd.2 fun y hy => (List.mem_erase_of_ne (fun z : y = x => nd.1 (by rw [← z]; exact hy))).mpr (h y (List.mem_cons_of_mem _ hy))
    rw [List.length_erase_of_mem hx] at q
    have := List.length_pos_of_mem hx
    rw [List.length_cons]; omega
/-- n, F n, F (F n), .. -/
def itr (F : Int → Int) (n : Int) : Nat → Int
  | 0 => n
  | i + 1 => F (itr F n i)
def itrL (F : Int → Int) (n : Int) (m : Nat) : List Int := (List.range m).map (itr F n)
section
variable {F : Int → Int}
theorem itr_add (n : Int) (i : Nat) : ∀ j, itr F n (i + j) = itr F (itr F n i) j
  | 0 => rfl
  | j + 1 => by
    show F (itr F n (i + j)) = F (itr F (itr F n i) j)
    rw [itr_add n i j]
theorem itrL_len (n : Int) (m : Nat) : (itrL F n m).length = m := by unfold itrL; rw [List.length_map, List.length_range]
theorem itrL_at {n : Int} {m i : Nat} (h : i < m) : (itrL F n m)[i]? = some (itr F n i) := by
  unfold itrL
  rw [List.getElem?_map, List.getElem?_range h]; rfl
theorem itrL_succ (n : Int) (m : Nat) : itrL F n (m + 1) = itrL F n m ++ [itr F n m] := by
  unfold itrL
  rw [List.range_succ, List.map_append]; rfl
theorem itrL_mem {n : Int} {m : Nat} {x : Int} : x ∈ itrL F n m ↔ ∃ i, i < m ∧ x = itr F n i := by
  unfold itrL
  rw [List.mem_map]
  exact ⟨fun ⟨i, h1, h2⟩ => ⟨i, List.mem_range.mp h1, h2.symm⟩, fun ⟨i, h1, h2⟩ => ⟨i, List.mem_range.mpr h1, h2.symm⟩⟩
theorem itrL_nodup {n : Int} {m : Nat} (h : ∀ i j, i < j → j < m → itr F n i ≠ itr F n j) : (itrL F n m).Nodup := by
  unfold itrL
  rw [List.nodup_iff_pairwise_ne, List.pairwise_map]
  refine List.Pairwise.imp_of_mem ?_ (List.pairwise_lt_range (n := m))
  intro i j _ hj hij e
  exact h i j hij (List.mem_range.mp hj) e
/-- m numbers, all unlike, and the next is the one at place a -/
structure WayOf (F : Int → Int) (n : Int) (m a : Nat) : Prop where
  lt : a < m
  again : itr F n m = itr F n a
  dis : ∀ i j, i < j → j < m → itr F n i ≠ itr F n j
theorem WayOf.one {n : Int} {m a m' a' : Nat} (h : WayOf F n m a) (h' : WayOf F n m' a') : m = m' ∧ a = a' := by
  have e : m = m' := by
    rcases Nat.lt_trichotomy m m' with c | c | c
    · exact absurd h.again.symm (h'.dis a m h.lt c)
    · exact c
    · exact absurd h'.again.symm (h.dis a' m' h'.lt c)
  subst e
  refine ⟨rfl, ?_⟩
  have q : itr F n a = itr F n a' := by rw [← h.again, h'.again]
  rcases Nat.lt_trichotomy a a' with c | c | c
  · exact absurd q (h.dis a a' c h'.lt)
  · exact c
  · exact absurd q.symm (h.dis a' a c h.lt)
/-- a period -/
theorem itr_turn {n : Int} {p : Nat} (h : itr F n p = n) (i : Nat) : ∀ k, itr F n (i + k * p) = itr F n i
  | 0 => by rw [Nat.zero_mul]; rfl
  | k + 1 => by
    rw [show i + (k + 1) * p = p + (i + k * p) by rw [Nat.succ_mul]; omega, itr_add, h, itr_turn h i k]
theorem itr_mod {n : Int} {p : Nat} (h : itr F n p = n) (i : Nat) : itr F n i = itr F n (i % p) := by
  have e := itr_turn h (i % p) (i / p)
  rw [Nat.mul_comm, Nat.mod_add_div] at e
  exact e
/-- a ring of p numbers, from its least one -/
structure RingL (F : Int → Int) (m : Int) (p : Nat) : Prop where
  pos : 0 < p
  back : itr F m p = m
  dis : ∀ i j, i < j → j < p → itr F m i ≠ itr F m j
  least : ∀ i, i < p → m ≤ itr F m i
/-- n stands in this ring -/
def RingOf (F : Int → Int) (n : Int) (L : List Int) : Prop := ∃ m p, RingL F m p ∧ L = itrL F m p ∧ n ∈ L
theorem RingL.all {m : Int} {p : Nat} (h : RingL F m p) (i : Nat) : m ≤ itr F m i := by
  rw [itr_mod h.back i]
  exact h.least _ (Nat.mod_lt _ h.pos)
theorem RingL.home {m n : Int} {p : Nat} (h : RingL F m p) (hn : n ∈ itrL F m p) : ∃ j, itr F n j = m ∧ ∃ i, n = itr F m i := by
  obtain ⟨i, hi, rfl⟩ := itrL_mem.mp hn
  exact ⟨p - i, by rw [← itr_add, show i + (p - i) = p by omega, h.back], i, rfl⟩
theorem RingOf.one {n : Int} {L L' : List Int} (h : RingOf F n L) (h' : RingOf F n L') : L = L' := by
  obtain ⟨m, p, r, rfl, hn⟩ := h
  obtain ⟨m', p', r', rfl, hn'⟩ := h'
  obtain ⟨j, ej, i, ei⟩ := r.home hn
  obtain ⟨j', ej', i', ei'⟩ := r'.home hn'
  have le : m ≤ m' := by
    rw [← ej', ei, ← itr_add]
    exact r.all _
  have ge : m' ≤ m := by
    rw [← ej, ei', ← itr_add]
    exact r'.all _
  obtain rfl : m = m' := Int.le_antisymm le ge
  have e : p = p' := by
    have e1 : itr F m 0 = m := rfl
    rcases Nat.lt_trichotomy p p' with c | c | c
    · exact absurd (e1.trans r.back.symm) (r'.dis 0 p r.pos c)
    · exact c
    · exact absurd (e1.trans r'.back.symm) (r.dis 0 p' r'.pos c)
  rw [e]
/-- the same ring for all that stand in it -/
theorem RingOf.mem {n x : Int} {L : List Int} (h : RingOf F n L) (hx : x ∈ L) : RingOf F x L := by
  obtain ⟨m, p, r, rfl, _⟩ := h
  exact ⟨m, p, r, rfl, hx⟩
theorem RingOf.next {n : Int} {L : List Int} (h : RingOf F n L) : RingOf F (F n) L := by
  refine h.mem ?_
  obtain ⟨m, p, r, rfl, hn⟩ := h
  obtain ⟨i, hi, rfl⟩ := itrL_mem.mp hn
  refine itrL_mem.mpr ⟨(i + 1) % p, Nat.mod_lt _ r.pos, ?_⟩
  show itr F m (i + 1) = _
  exact itr_mod r.back _
theorem RingOf.iter {n : Int} {L : List Int} (h : RingOf F n L) : ∀ i, RingOf F (itr F n i) L
  | 0 => h
  | i + 1 => (h.iter i).next
/-- all p unlike, back to n, turned to the least one -/
theorem ring_turn {n : Int} {p k : Nat} (hp : k < p) (back : itr F n p = n) (dis : ∀ i j, i < j → j < p → itr F n i ≠ itr F n j) (least : ∀ i, i < p → itr F n k ≤ itr F n i) :
    RingOf F n ((itrL F n p).drop k ++ (itrL F n p).take k) := by
  have sh : ∀ i, itr F (itr F n k) i = itr F n (k + i) := fun i => (itr_add n k i).symm
  have md : ∀ i, itr F n i = itr F n (i % p) := itr_mod back
  have bk : itr F (itr F n k) p = itr F n k := by
    rw [sh, show k + p = k + 1 * p by omega, itr_turn back]
  have mi : ∀ i j, i < j → j < p → (k + i) % p ≠ (k + j) % p := fun i j h1 h2 e => by
    have a1 : (k + i) % p = if k + i < p then k + i else k + i - p := by
      split
      · exact Nat.mod_eq_of_lt (by assumption)
      · rw [Nat.mod_eq_sub_mod (by omega), Nat.mod_eq_of_lt (by omega)]
    have a2 : (k + j) % p = if k + j < p then k + j else k + j - p := by
      split
      · exact Nat.mod_eq_of_lt (by assumption)
      · rw [Nat.mod_eq_sub_mod (by omega), Nat.mod_eq_of_lt (by omega)]
    rw [a1, a2] at e
    split at e <;> split at e <;> omega
  refine ⟨itr F n k, p, ⟨by omega, bk, fun i j h1 h2 e => ?_, fun i hi => ?_⟩, ?_, ?_⟩
  · rw [sh, sh, md (k + i), md (k + j)] at e
    have m1 := Nat.mod_lt (k + i) (show 0 < p by omega)
    have m2 := Nat.mod_lt (k + j) (show 0 < p by omega)
    rcases Nat.lt_trichotomy ((k + i) % p) ((k + j) % p) with c | c | c
    · exact dis _ _ c m2 e
    · exact mi i j h1 h2 c
    · exact dis _ _ c m1 e.symm
  · rw [sh, md (k + i)]
    exact least _ (Nat.mod_lt _ (by omega))
  · refine List.ext_getElem? fun i => ?_
    by_cases c : i < p
    · rw [itrL_at c, sh]
      by_cases c2 : k + i < p
      · rw [List.getElem?_append_left (by rw [List.length_drop, itrL_len]; omega), List.getElem?_drop, itrL_at c2]
      · rw [List.getElem?_append_right (by rw [List.length_drop, itrL_len]; omega), List.length_drop, itrL_len, List.getElem?_take, if_pos (by omega), itrL_at (by omega), md (k + i)]
        congr 2
        rw [Nat.mod_eq_sub_mod (by omega), Nat.mod_eq_of_lt (by omega)]
        omega
    · rw [List.getElem?_eq_none (l := itrL F (itr F n k) p) (by rw [itrL_len]; omega), List.getElem?_eq_none (by rw [List.length_append, List.length_drop, List.length_take, itrL_len]; omega)]
  · rw [List.mem_append, Or.comm, ← List.mem_append, List.take_append_drop]
    exact itrL_mem.mpr ⟨0, by omega, rfl⟩
/-- within a line: at most so many unlike numbers -/
theorem way_few {n C : Int} {e m : Nat} (h0 : 0 ≤ C) (hb : ∀ i, e ≤ i → -C ≤ itr F n i ∧ itr F n i ≤ C) (h : ∀ i j, i < j → j < m → itr F n i ≠ itr F n j) : (m : Int) ≤ e + 2 * C + 1 := by
  by_cases c : e ≤ m
  · have nd : ((List.range (m - e)).map fun i => itr F n (e + i)).Nodup := by
      rw [List.nodup_iff_pairwise_ne, List.pairwise_map]
      refine List.Pairwise.imp_of_mem ?_ (List.pairwise_lt_range (n := m - e))
      intro i j _ hj hij
      have := List.mem_range.mp hj
      exact h _ _ (by omega) (by omega)
    have q := nodup_leR (D := (List.range (2 * C + 1).toNat).map fun (j : Nat) => (j : Int) - C) nd fun x hx => by
      obtain ⟨i, _, rfl⟩ := List.mem_map.mp hx
      have b := hb (e + i) (by omega)
      exact List.mem_map.mpr ⟨(itr F n (e + i) + C).toNat, List.mem_range.mpr (by omega), by omega⟩
    rw [List.length_map, List.length_map, List.length_range, List.length_range] at q
    omega
  · omega
end
end R
/-! the numbers that a trick makes -/
namespace R
theorem half_step {B t n : Int} (hB : 2 ≤ B ∧ B ≤ 256) (ht : -100 ≤ t ∧ t ≤ 100) : (n / B + t * (n % B)).natAbs ≤ n.natAbs / 2 + 25501 := by
  have r0 : 0 ≤ n % B := Int.emod_nonneg _ (by omega)
  have r1 : n % B < B := Int.emod_lt_of_pos _ (by omega)
  have e := Int.mul_ediv_add_emod n B
  have t1 : t * (n % B) ≤ 100 * (n % B) := Int.mul_le_mul_of_nonneg_right ht.2 r0
  have t2 : -100 * (n % B) ≤ t * (n % B) := Int.mul_le_mul_of_nonneg_right ht.1 r0
  have q : (n / B).natAbs ≤ n.natAbs / 2 + 1 := by
    generalize n / B = q at *
    by_cases c : 0 ≤ q
    · have := Int.mul_le_mul_of_nonneg_right hB.1 c
      omega
    · have z : B * (-q) ≥ 2 * (-q) := Int.mul_le_mul_of_nonneg_right hB.1 (by omega)
      rw [Int.mul_neg] at z
      by_cases c2 : q ≤ -2
      · have z2 : B * (-q - 1) ≥ 2 * (-q - 1) := Int.mul_le_mul_of_nonneg_right hB.1 (by omega)
        rw [Int.mul_sub, Int.mul_neg, Int.mul_one] at z2
        omega
      · omega
  generalize t * (n % B) = s at *
  generalize n / B = q at *
  omega
theorem itr_near {F : Int → Int} (h : ∀ n, (F n).natAbs ≤ n.natAbs / 2 + 25501) (n : Int) : ∀ i, (itr F n i).natAbs ≤ n.natAbs / 2 ^ i + 51003
  | 0 => by show n.natAbs ≤ _; rw [Nat.pow_zero, Nat.div_one]; omega
  | i + 1 => by
    have q := itr_near h n i
    have z := h (itr F n i)
    have e : n.natAbs / 2 ^ (i + 1) = n.natAbs / 2 ^ i / 2 := by rw [Nat.pow_succ, Nat.div_div_eq_div_mul]
    rw [e]
    show (F (itr F n i)).natAbs ≤ _
    omega
theorem itr_in {F : Int → Int} (h : ∀ n, (F n).natAbs ≤ n.natAbs / 2 + 25501) {n : Int} (hn : -(10 ^ 40) ≤ n ∧ n ≤ 10 ^ 40) (i : Nat) (hi : 140 ≤ i) : -51003 ≤ itr F n i ∧ itr F n i ≤ 51003 := by
  have q := itr_near h n i
  have z : n.natAbs / 2 ^ i = 0 := by
    refine Nat.div_eq_of_lt (Nat.lt_of_lt_of_le (show n.natAbs < 2 ^ 140 by omega) (Nat.pow_le_pow_right (by omega) hi))
  rw [z] at q
  omega
/-- a way is short -/
theorem way_short {F : Int → Int} (h : ∀ n, (F n).natAbs ≤ n.natAbs / 2 + 25501) {n : Int} (hn : -(10 ^ 40) ≤ n ∧ n ≤ 10 ^ 40) {m : Nat} (hd : ∀ i j, i < j → j < m → itr F n i ≠ itr F n j) : m ≤ 102147 := by
  have := way_few (C := 51003) (e := 140) (by omega) (fun i hi => itr_in h hn i hi) hd
  omega
theorem way_ex {F : Int → Int} (h : ∀ n, (F n).natAbs ≤ n.natAbs / 2 + 25501) {n : Int} (hn : -(10 ^ 40) ≤ n ∧ n ≤ 10 ^ 40) : ∃ m a, WayOf F n m a := by
  apply Classical.byContradiction
  intro no
  have all : ∀ m, ∀ i j, i < j → j < m → itr F n i ≠ itr F n j := by
    intro m
    induction m with
    | zero => intro i j _ h; omega
    | succ m ih =>
      intro i j h1 h2 e
      by_cases c : j = m
      · subst c; exact no ⟨j, i, ⟨h1, e.symm, ih⟩⟩
      · exact ih i j h1 (by omega) e
  have := way_short h hn (all 102148)
  omega
end R

/-! ## dicts whose keys are ints -/
namespace R
open PySem PySem.Spec PyProof.Rows L2
def entK (x : Int × V) : Key × V := (.inl x.1, x.2)
def KD (kvs : List (Int × V)) : HO := .dK (kvs.map entK)
theorem val_entK (kvs : List (Int × V)) (n : Int) : valV (kvs.map entK) (Sum.inl n : Key) = (kvs.find? fun x => decide (x.1 = n)).map (·.2) := by
  induction kvs with
  | nil => rfl
  | cons x l ih =>
    rw [List.map_cons, List.find?_cons]
    by_cases c : x.1 = n
    · rw [valV_pos (by show (Sum.inl x.1 : Key) = _; rw [c]), decide_eq_true c]
      rfl
    · rw [valV_neg (fun e => c (Sum.inl.inj e)), decide_eq_false c, ih]
theorem some_entK (kvs : List (Int × V)) (n : Int) : (valV (kvs.map entK) (Sum.inl n : Key)).isSome = decide (n ∈ kvs.map (·.1)) := by
  rw [← valV_any, List.any_map, Bool.eq_iff_iff, List.any_eq_true, decide_eq_true_iff, List.mem_map]
  constructor
  · rintro ⟨x, hx, e⟩
    have e : (Sum.inl x.1 : Key) = Sum.inl n := of_decide_eq_true e
    exact ⟨x, hx, Sum.inl.inj e⟩
  · rintro ⟨x, hx, rfl⟩
    exact ⟨x, hx, decide_eq_true rfl⟩
theorem put_entK {kvs : List (Int × V)} {n : Int} (v : V) (h : n ∉ kvs.map (·.1)) : putK (kvs.map entK) (Sum.inl n : Key) v = (kvs ++ [(n, v)]).map entK := by
  have z : valV (kvs.map entK) (Sum.inl n : Key) = none := by
    have q := some_entK kvs n
    rw [decide_eq_false h] at q
    cases e : valV (kvs.map entK) (Sum.inl n : Key) with
    | none => rfl
    | some x => rw [e] at q; cases q
  rw [putK_new v z, List.map_append]
  rfl
section
variable {σ : L2.St} {H : Hp} {Q : VK} {td ty tv : TE} {D : Ends}
theorem a_dnin (h : ty σ H fun y H1 => td σ H1 fun x H2 => ∃ a o, x = .ref a ∧ DGet H2 a y o ∧ Q (.bl (!o.isSome)) H2) : tDNotIn ty td σ H Q := h
theorem a_din (h : ty σ H fun y H1 => td σ H1 fun x H2 => ∃ a o, x = .ref a ∧ DGet H2 a y o ∧ Q (.bl o.isSome) H2) : tDIn ty td σ H Q := h
theorem a_dget (h : td σ H fun x H1 => ty σ H1 fun y H2 => ∃ a v, x = .ref a ∧ DGet H2 a y (some v) ∧ Q v H2) : tDGet td ty σ H Q := h
theorem a_dset (h : tv σ H fun v H1 => td σ H1 fun x H2 => ty σ H2 fun y H3 => ∃ a H4, x = .ref a ∧ DPut H3 a y v H4 ∧ D.nx σ H4) : sDPut td ty tv D σ H := h
end
section
variable {B H : Hp} {Lw : List (Addr × HO)} {a : Addr} {kvs : List (Int × V)} {n : Int} {v : V}
/-- d[n] = v, a new key -/
theorem a_putK (O : Own B Lw H) (i : Nat) (hi : Lw[i]? = some (a, KD kvs)) (hn : n ∉ kvs.map (·.1)) (hl : kvs.length < 1000000) (P : Hp → Prop) (h : ∀ H', Own B (Lw.set i (a, KD (kvs ++ [(n, v)]))) H' → P H') : ∃ c H4, V.ref a = .ref c ∧ DPut H c (.int n) v H4 ∧ P H4 := by
  refine ⟨a, _, rfl, DPut.k (kvs := kvs.map entK) (k := .inl n) (O.get i hi) (Nat.lt_of_lt_of_le (show (kvs.map entK).length < 1000000 by rw [List.length_map]; exact hl) (by decide)), ?_⟩
  rw [put_entK v hn]
  exact h _ (O.put i hi)
/-- n in d, n not in d -/
theorem has_K (ha : Rd H a (KD kvs)) (n : Int) : ∃ o, DGet H a (.int n) o ∧ o.isSome = decide (n ∈ kvs.map (·.1)) := ⟨_, .inl ⟨kvs.map entK, .inl n, ha, rfl, rfl⟩, some_entK kvs n⟩
/-- d[n] -/
theorem get_K (ha : Rd H a (KD kvs)) (hv : (kvs.find? fun x => decide (x.1 = n)).map (·.2) = some v) : DGet H a (.int n) (some v) := .inl ⟨kvs.map entK, .inl n, ha, rfl, by rw [val_entK, hv]⟩
theorem a_getK (ha : Rd H a (KD kvs)) {P : V → Hp → Prop} (hv : (kvs.find? fun x => decide (x.1 = n)).map (·.2) = some v) (h : P v H) : ∃ c v, V.ref a = .ref c ∧ DGet H c (.int n) (some v) ∧ P v H :=
  ⟨a, v, rfl, .inl ⟨kvs.map entK, .inl n, ha, rfl, by rw [val_entK, hv]⟩, h⟩
end
theorem a_catM {B H : Hp} {Lw : List (Addr × HO)} {a b : Addr} {xs ys : List V} {Q : VK} (O : Own B Lw H) (ha : H a = some (.lst xs)) (hb : H b = some (.lst ys)) (hz : xs.length + ys.length ≤ 1000000) (q : ∀ p H', H p = none → Own B ((p, .lst (xs ++ ys)) :: Lw) H' → Q (.ref p) H') : rCat (.ref a) (.ref b) H Q :=
  ⟨a, b, xs, ys, rfl, rfl, ha, hb, Nat.le_trans hz (by decide), fun p hp => q p _ hp (O.new hp)⟩
end R

/-! ## d.update(e), both dicts with int keys -/
namespace R
open PySem PySem.Spec PyProof.Rows L2
open PySem.W (Frag)
def rUpdate : V → List V → Hp → VK → Prop := fun x xs H Q => ∃ (a b : Addr) (kvs more : List (Key × V)), x = .ref a ∧ xs = [.ref b] ∧ H a = some (.dK kvs) ∧ Rd H b (.dK more) ∧ a ≠ b ∧ kvs.length + more.length ≤ sizeLine ∧ Q .non (upd H a (.dK (mergeK kvs more)))
theorem mt_update {X : Cx} : MtR X "dict.update" rUpdate := by
  intro pins s σ H x xs v us Q I rx rv h
  obtain ⟨a, b, kvs, more, rfl, rfl, ea, eb, ne, hz, q⟩ := h
  obtain rfl : v = Value.ref a := rx
  obtain ⟨u, rfl, ru⟩ := rv.one
  obtain rfl : u = Value.ref b := ru
  obtain ⟨z, hd, vs, rel, dd⟩ := dk_of I.hok ea
  obtain ⟨z2, hd2, rs, rel2, dd2⟩ := dk_rd I.hok eb
  refine call_meetsIn PySem.F.slot_dict_update dd.typeIs PySem.F.entry_dict_update (PySem.F.args_dict_update_2 _ _) (meets_dict_update (mixKind X.prog X.w) a b ne hd2) ⟨vs, rs, dd, dd2, ?_, fun h' dd' _ hs => ?_⟩
  · rw [← rel.length, ← rel2.length]; exact hz
  · have hl := length_mergeK more kvs
    have he : ∃ q, h'.get? a = some q := let ⟨q, _, _, hq, _⟩ := dd'; ⟨q, hq⟩
    exact ⟨.non, _, d_write I (by rw [ea]; exact True.intro) hs he (dk_new (by omega) hd (rel2.merge rel) dd'), rfl, q⟩
theorem merge_entK : ∀ {more kvs : List (Int × V)}, ((kvs ++ more).map (·.1)).Nodup → mergeK (kvs.map entK) (more.map entK) = (kvs ++ more).map entK
  | [], kvs, _ => by rw [List.append_nil]; rfl
  | (n, v) :: more, kvs, nd => by
    have hn : n ∉ kvs.map (·.1) := fun z => by
      rw [List.map_append, List.map_cons, List.nodup_append] at nd
      exact nd.2.2 n z n List.mem_cons_self rfl
    show mergeK (putK (kvs.map entK) (Sum.inl n : Key) v) (more.map entK) = _
    rw [put_entK v hn, merge_entK (by rw [List.append_assoc]; exact nd), List.append_assoc]
    rfl
section
variable {B H : Hp} {Lw : List (Addr × HO)} {a b : Addr} {kvs more : List (Int × V)} {Q : VK}
theorem a_upd (O : Own B Lw H) (i j : Nat) (hi : Lw[i]? = some (a, KD kvs)) (hj : Lw[j]? = some (b, KD more)) (ne : a ≠ b) (nd : ((kvs ++ more).map (·.1)).Nodup) (hl : kvs.length + more.length ≤ 1000000)
    (q : ∀ H', Own B (Lw.set i (a, KD (kvs ++ more))) H' → Q .non H') : rUpdate (.ref a) [.ref b] H Q :=
  ⟨a, b, _, _, rfl, rfl, O.get i hi, .inl (O.get j hj), ne, by rw [List.length_map, List.length_map]; exact Nat.le_trans hl (by decide), by
    rw [merge_entK nd]
    exact q _ (O.put i hi)⟩
end
end R

/-! ## sorted(xs), xs a list of tuples of ints (none empty), or a dict with such keys -/
namespace R
open PySem PySem.Spec PyProof.Rows L2
open PySem.W (Frag EachIs AllAlike Sortable sorted_data list_sort_data dataLe dataLt alike_ints depth_ints)
/-- the refs of rows -/
def refs {α : Type} (ps : List (Addr × α)) : List V := ps.map fun q => V.ref q.1
def encT (q : Addr × List Int) : PyData := .tuple (q.2.map .int)
def leT (x y : Addr × List Int) : Bool := decide (x.2 ≤ y.2)
theorem dataLe_T : dataLe false encT = leT := by
  funext p q
  show (!dataLt (.tuple (q.2.map .int)) (.tuple (p.2.map .int))) = _
  rw [PySem.W.dataLt_tuple]
  show (!PySem.W.rowLt (q.2.map .int) (p.2.map .int)) = _
  rw [PySem.W.dataLt_ints]
  unfold leT
  by_cases h : q.2 < p.2
  · have h' : ¬ p.2 ≤ q.2 := fun r => List.not_lt.mpr r h
    simp [h, h']
  · have h' : p.2 ≤ q.2 := List.not_lt.mp h
    simp [h, h']
def isRef (v : Value) (q : Addr × List Int) : Prop := v = .ref q.1
theorem vals_refs {α : Type} : ∀ {ps : List (Addr × α)} {its : List Value}, Vals (refs ps) its → its = ps.map fun q => Value.ref q.1
  | [], _, h => by cases h; rfl
  | q :: ps, _, h => by
    cases h with
    | cons h1 h2 =>
      cases h1
      rw [vals_refs h2]; rfl
theorem refs_vals {α : Type} : ∀ (ps : List (Addr × α)), Vals (refs ps) (ps.map fun q => Value.ref q.1)
  | [] => .nil
  | q :: ps => .cons rfl (refs_vals ps)
theorem each_refs {P : Value → (Addr × List Int) → Prop} : ∀ {ps : List (Addr × List Int)}, (∀ q ∈ ps, P (.ref q.1) q) → EachIs P (ps.map fun q => Value.ref q.1) ps
  | [], _ => .nil
  | q :: ps, h => .cons (h q List.mem_cons_self) (each_refs fun x hx => h x (List.mem_cons_of_mem _ hx))
theorem each_isRef : ∀ {ps : List (Addr × List Int)} {vs : List Value}, EachIs isRef vs ps → vs = ps.map fun q => Value.ref q.1
  | [], _, h => by cases h; rfl
  | q :: ps, _, h => by
    cases h with
    | cons h1 h2 => rw [each_isRef h2, show _ = _ from h1]; rfl
theorem alike_T (ps : List (Addr × List Int)) : AllAlike (ps.map encT) := AllAlike.of fun b b' => by
  show PySem.W.alikeAll _ _ = true
  exact alike_ints _ _
theorem sortable_T {ps : List (Addr × List Int)} (h : ∀ q ∈ ps, q.2 ≠ []) : Sortable (ps.map encT) := .inl fun d hd => by
  obtain ⟨q, hq, rfl⟩ := List.mem_map.mp hd
  obtain ⟨a, l⟩ := q
  cases l with
  | nil => exact absurd rfl (h _ hq)
  | cons x r => exact ⟨.int x, r.map .int, rfl⟩
theorem depth_T (q : Addr × List Int) : (encT q).depth ≤ 1 := by
  show PyData.depth (.tuple (q.2.map .int)) ≤ 1
  simp only [PyData.depth]
  rw [depth_ints]
  decide
theorem dp_ints {K : Frag} {H : Hp} : ∀ l : List Int, DpAll K H (l.map V.int) (l.map .int)
  | [] => .nil
  | x :: l => .cons (.int x) (dp_ints l)
def rSortedTs (K : Frag) : List V → Hp → VK → Prop := fun vs H Q => ∃ (a : Addr) (ps : List (Addr × List Int)), vs = [.ref a] ∧ SqL K H a (refs ps) ∧ (∀ q ∈ ps, SqT K H q.1 (q.2.map V.int) ∧ q.2 ≠ []) ∧ ∀ p, H p = none → Q (.ref p) (upd H p (.lst (refs (ps.mergeSort leT))))
theorem cr_sortedTs {X : Cx} (hu : X.A.units + 64 < cLine) : CallR X (.builtin "sorted") (rSortedTs X.K) := by
  intro pins s σ H vs us Q I r h
  obtain ⟨a, ps, rfl, hs, hx, q⟩ := h
  obtain ⟨its, rv, hl, hz⟩ := I.list hs
  obtain ⟨u, rfl, ru⟩ := vals1 r
  obtain rfl : u = Value.ref a := ru
  obtain rfl := vals_refs rv
  have hz : ps.length ≤ sizeLine := by rw [← List.length_map (f := fun q : Addr × List Int => V.ref q.1)]; exact hz
  refine sorted_data (R := isRef) (enc := encT) (bs := ps) hl.isList (each_refs fun _ _ => rfl) (each_refs fun x hx' => ?_) (alike_T ps) (sortable_T fun x hx' => (hx x hx').2) hz (fun b _ => ?_) fun out hlen eo => ?_
  · exact Dp.reads I _ _ _ (.tup (hx x hx').1 (dp_ints _)) rfl
  · have := depth_T b; omega
  · rw [dataLe_T] at eo
    obtain rfl := each_isRef eo
    obtain ⟨n, hn⟩ := sortedAll_at s.heap (ps.map fun q => Value.ref q.1) ((ps.mergeSort leT).map fun q => Value.ref q.1).toArray
    refine ⟨.ref (s.heap.objs.size + 1), upd H (s.heap.objs.size + 1) (.lst (refs (ps.mergeSort leT))), I.laid (t' := s.toks) (fun b o e => sortedAll_old e) (Nat.le_succ _) ⟨?_, _, n, refs_vals _, hn⟩, rfl, q _ (I.hok.fresh (Nat.le_succ _))⟩
    rw [show (refs (ps.mergeSort leT)).length = ps.length by unfold refs; rw [List.length_map, List.length_mergeSort]]
    exact hz
/-! the order -/
theorem leT_le {x y : Addr × List Int} : leT x y = true ↔ x.2 ≤ y.2 := decide_eq_true_iff
theorem sort_T (ps : List (Addr × List Int)) : ((ps.mergeSort leT).map (·.2)).Pairwise (· ≤ ·) := by
  rw [List.pairwise_map]
  refine (List.pairwise_mergeSort (le := leT) (fun a b c h1 h2 => ?_) (fun a b => ?_) ps).imp fun h => leT_le.mp h
  · exact leT_le.mpr (List.le_trans (leT_le.mp h1) (leT_le.mp h2))
  · rw [Bool.or_eq_true]
    rcases List.le_total a.2 b.2 with h | h
    · exact .inl (leT_le.mpr h)
    · exact .inr (leT_le.mpr h)
theorem sort_memT {ps : List (Addr × List Int)} {q : Addr × List Int} : q ∈ ps.mergeSort leT ↔ q ∈ ps := List.mem_mergeSort
/-- two sorted lists without repeats that have the same members are one -/
theorem sorted_one : ∀ {l m : List (List Int)}, l.Pairwise (· ≤ ·) → m.Pairwise (· ≤ ·) → l.Nodup → m.Nodup → (∀ x, x ∈ l ↔ x ∈ m) → l = m
  | [], [], _, _, _, _, _ => rfl
  | [], y :: m, _, _, _, _, h => absurd ((h y).mpr List.mem_cons_self) List.not_mem_nil
  | x :: l, [], _, _, _, _, h => absurd ((h x).mp List.mem_cons_self) List.not_mem_nil
  | x :: l, y :: m, s1, s2, n1, n2, h => by
    rw [List.pairwise_cons] at s1 s2
    rw [List.nodup_cons] at n1 n2
    have e : x = y := by
      rcases List.mem_cons.mp ((h x).mp List.mem_cons_self) with e | e
      · exact e
      · rcases List.mem_cons.mp ((h y).mpr List.mem_cons_self) with e2 | e2
        · exact e2.symm
        · exact List.le_antisymm (s1.1 y e2) (s2.1 x e)
    subst e
    rw [sorted_one s1.2 s2.2 n1.2 n2.2 fun z => ⟨fun hz => ?_, fun hz => ?_⟩]
    · rcases List.mem_cons.mp ((h z).mp (List.mem_cons_of_mem _ hz)) with e | e
      · exact absurd (e ▸ hz) n1.1
      · exact e
    · rcases List.mem_cons.mp ((h z).mpr (List.mem_cons_of_mem _ hz)) with e | e
      · exact absurd (e ▸ hz) n2.1
      · exact e
end R

/-! ## all rings: plain law -/
namespace R
section
variable {F : Int → Int}
theorem RingOf.self {n : Int} {L : List Int} (h : RingOf F n L) : n ∈ L := let ⟨_, _, _, _, q⟩ := h; q
/-- who stands in a ring comes to each other one -/
theorem RingOf.reach {n x : Int} {L : List Int} (h : RingOf F n L) (hx : x ∈ L) : ∃ j, itr F n j = x := by
  obtain ⟨m, p, r, rfl, hn⟩ := h
  obtain ⟨j, ej, _⟩ := r.home hn
  obtain ⟨i, _, rfl⟩ := itrL_mem.mp hx
  exact ⟨j + i, by rw [itr_add, ej]⟩
/-- S: a set that F does not leave; Ls: all rings with a number in it -/
structure RingsIn (F : Int → Int) (S : List Int) (Ls : List (List Int)) : Prop where
  cl : ∀ x ∈ S, F x ∈ S
  nd : S.Nodup
  ln : Ls.Nodup
  rg : ∀ L, L ∈ Ls ↔ ∃ x, x ∈ S ∧ RingOf F x L
theorem RingsIn.none : RingsIn F [] [] := ⟨fun _ h => by simp at h, .nil, .nil, fun L => by simp⟩
section
variable {S : List Int} {Ls : List (List Int)} {n : Int} {j i : Nat}
theorem RingsIn.iter (h : RingsIn F S Ls) {x : Int} (hx : x ∈ S) : ∀ i, itr F x i ∈ S
  | 0 => hx
  | i + 1 => h.cl _ (h.iter hx i)
theorem RingsIn.grow (h : RingsIn F S Ls) (dis : ∀ i i', i < i' → i' < j → itr F n i ≠ itr F n i') (out : ∀ i, i < j → itr F n i ∉ S) : (S ++ itrL F n j).Nodup := by
  rw [List.nodup_append]
  refine ⟨h.nd, itrL_nodup dis, fun a ha b hb e => ?_⟩
  obtain ⟨i, hi, rfl⟩ := itrL_mem.mp hb
  exact out i hi (e ▸ ha)
/-- the way runs into what is known -/
theorem RingsIn.join (h : RingsIn F S Ls) (dis : ∀ i i', i < i' → i' < j → itr F n i ≠ itr F n i') (out : ∀ i, i < j → itr F n i ∉ S) (hit : itr F n j ∈ S) : RingsIn F (S ++ itrL F n j) Ls := by
  refine ⟨fun x hx => ?_, h.grow dis out, h.ln, fun L => ⟨fun hL => ?_, ?_⟩⟩
  · rcases List.mem_append.mp hx with hx | hx
    · exact List.mem_append_left _ (h.cl x hx)
    · obtain ⟨i, hi, rfl⟩ := itrL_mem.mp hx
      by_cases c : i + 1 = j
      · exact List.mem_append_left _ (show itr F n (i + 1) ∈ S by rw [c]; exact hit)
      · exact List.mem_append_right _ (itrL_mem.mpr ⟨i + 1, by omega, rfl⟩)
  · obtain ⟨x, hx, r⟩ := (h.rg L).mp hL
    exact ⟨x, List.mem_append_left _ hx, r⟩
  · rintro ⟨x, hx, r⟩
    rcases List.mem_append.mp hx with hx | hx
    · exact (h.rg L).mpr ⟨x, hx, r⟩
    · obtain ⟨i, hi, rfl⟩ := itrL_mem.mp hx
      have q := r.iter (j - i)
      rw [← itr_add, show i + (j - i) = j by omega] at q
      exact (h.rg L).mpr ⟨_, hit, q⟩
/-- the way runs into itself: a new ring -/
theorem RingsIn.more (h : RingsIn F S Ls) {L0 : List Int} (w : WayOf F n j i) (out : ∀ i, i < j → itr F n i ∉ S) (r0 : RingOf F (itr F n i) L0) : RingsIn F (S ++ itrL F n j) (Ls ++ [L0]) := by
  refine ⟨fun x hx => ?_, h.grow w.dis out, ?_, fun L => ⟨fun hL => ?_, ?_⟩⟩
  · rcases List.mem_append.mp hx with hx | hx
    · exact List.mem_append_left _ (h.cl x hx)
    · obtain ⟨k, hk, rfl⟩ := itrL_mem.mp hx
      refine List.mem_append_right _ (itrL_mem.mpr ?_)
      by_cases c : k + 1 = j
      · exact ⟨i, w.lt, by rw [← w.again, ← c]; rfl⟩
      · exact ⟨k + 1, by omega, rfl⟩
  · rw [List.nodup_append]
    refine ⟨h.ln, List.nodup_cons.mpr ⟨List.not_mem_nil, .nil⟩, fun a ha b hb e => ?_⟩
    rw [List.mem_singleton] at hb
    subst hb e
    obtain ⟨x, hx, r⟩ := (h.rg _).mp ha
    obtain ⟨k, ek⟩ := r.reach r0.self
    exact out i w.lt (ek ▸ h.iter hx k)
  · rcases List.mem_append.mp hL with hL | hL
    · obtain ⟨x, hx, r⟩ := (h.rg L).mp hL
      exact ⟨x, List.mem_append_left _ hx, r⟩
    · rw [List.mem_singleton] at hL
      subst hL
      exact ⟨itr F n i, List.mem_append_right _ (itrL_mem.mpr ⟨i, w.lt, rfl⟩), r0⟩
  · rintro ⟨x, hx, r⟩
    rcases List.mem_append.mp hx with hx | hx
    · exact List.mem_append_left _ ((h.rg L).mpr ⟨x, hx, r⟩)
    · obtain ⟨k, hk, rfl⟩ := itrL_mem.mp hx
      have q := r.iter (j - k)
      rw [← itr_add, show k + (j - k) = j by omega, w.again] at q
      exact List.mem_append_right _ (by rw [RingOf.one q r0]; exact List.mem_singleton_self _)
end
/-- a ring has a number that does not get less -/
theorem RingL.low {m : Int} {p : Nat} {C : Int} (h : RingL F m p) (hF : ∀ x : Int, C < (x.natAbs : Int) → ((F x).natAbs : Int) < (x.natAbs : Int)) : ∃ i, i < p ∧ ((itr F m i).natAbs : Int) ≤ C := by
  apply Classical.byContradiction
  intro no
  have all : ∀ i, C < ((itr F m i).natAbs : Int) := fun i => by
    rw [itr_mod h.back i]
    apply Int.not_le.mp
    intro z
    exact no ⟨i % p, Nat.mod_lt _ h.pos, z⟩
  have down : ∀ i : Nat, ((itr F m i).natAbs : Int) + i ≤ (m.natAbs : Int) := by
    intro i
    induction i with
    | zero => show ((m.natAbs : Nat) : Int) + ((0 : Nat) : Int) ≤ _; omega
    | succ i ih =>
      have q := hF _ (all i)
      show ((F (itr F m i)).natAbs : Int) + ((i + 1 : Nat) : Int) ≤ _
      omega
  have q := down p
  rw [h.back] at q
  have := h.pos
  omega
/-- all rings -/
structure AllRings (F : Int → Int) (Ls : List (List Int)) : Prop where
  ln : Ls.Nodup
  rg : ∀ L, L ∈ Ls ↔ ∃ x, RingOf F x L
theorem RingsIn.all {S : List Int} {Ls : List (List Int)} {C : Int} (h : RingsIn F S Ls) (hF : ∀ x : Int, C < (x.natAbs : Int) → ((F x).natAbs : Int) < (x.natAbs : Int)) (hS : ∀ x : Int, -C ≤ x → x ≤ C → x ∈ S) : AllRings F Ls := by
  refine ⟨h.ln, fun L => ⟨fun hL => ?_, ?_⟩⟩
  · obtain ⟨x, _, r⟩ := (h.rg L).mp hL
    exact ⟨x, r⟩
  · rintro ⟨x, r⟩
    obtain ⟨m, p, rl, e, _⟩ := id r
    obtain ⟨i, hi, hl⟩ := rl.low hF
    have hm : itr F m i ∈ L := by rw [e]; exact itrL_mem.mpr ⟨i, hi, rfl⟩
    exact (h.rg L).mpr ⟨_, hS _ (by omega) (by omega), r.mem hm⟩
theorem AllRings.perm {Ls Ms : List (List Int)} (h : AllRings F Ls) (p : Ms.Perm Ls) : AllRings F Ms := ⟨p.nodup_iff.mpr h.ln, fun L => by rw [p.mem_iff]; exact h.rg L⟩
theorem AllRings.one {Ls Ms : List (List Int)} (h : AllRings F Ls) (h' : AllRings F Ms) (s : Ls.Pairwise (· ≤ ·)) (s' : Ms.Pairwise (· ≤ ·)) : Ls = Ms :=
  sorted_one s s' h.ln h'.ln fun L => by rw [h.rg, h'.rg]
theorem RingOf.ne {n : Int} {L : List Int} (h : RingOf F n L) : L ≠ [] := fun e => by
  have := h.self
  rw [e] at this
  cases this
/-- all that is met stays near -/
theorem itr_near1 {C : Nat} (h : ∀ n, (F n).natAbs ≤ n.natAbs / 2 + 25501) (hC : 51003 ≤ C) {n : Int} (hn : n.natAbs ≤ C) : ∀ i, (itr F n i).natAbs ≤ C
  | 0 => hn
  | i + 1 => by
    have q := itr_near1 h hC hn i
    have z := h (itr F n i)
    show (F (itr F n i)).natAbs ≤ C
    omega
theorem few_near {S : List Int} {C : Nat} (nd : S.Nodup) (h : ∀ x ∈ S, x.natAbs ≤ C) : S.length ≤ 2 * C + 1 := by
  have q := nodup_leR (D := (List.range (2 * C + 1)).map fun (j : Nat) => (j : Int) - C) nd fun x hx => by
    have := h x hx
    exact List.mem_map.mpr ⟨(x + C).toNat, List.mem_range.mpr (by omega), by omega⟩
  rw [List.length_map, List.length_range] at q
  exact q
end
end R
namespace R
open PySem L2
def trueK (ns : List Int) : HO := KD (ns.map fun n => (n, V.bl true))
theorem trueK_keys (ns : List Int) : (ns.map fun n => (n, V.bl true)).map (·.1) = ns := by rw [List.map_map]; exact List.map_id _
theorem beh_half {b k t : Int} (hb : 2 ≤ b ^ k.toNat ∧ b ^ k.toNat ≤ 256) (ht : -100 ≤ t ∧ t ≤ 100) (n : Int) : (beh b k t n).natAbs ≤ n.natAbs / 2 + 25501 := half_step hb ht
theorem bound_near {b k t m : Int} (hb : 2 ≤ b ^ k.toNat ∧ b ^ k.toNat ≤ 256) (ht : -100 ≤ t ∧ t ≤ 100) (h : BoundOf b k t m) : 0 ≤ m ∧ m ≤ 51003 := by
  refine ⟨h.low, ?_⟩
  by_cases c : 0 < m
  · have h1 := beh_half hb ht m
    have h2 := beh_half hb ht (-m)
    rcases h.hit c with z | z <;> omega
  · omega
theorem bound_less {b k t m : Int} (h : BoundOf b k t m) (x : Int) (hx : m < (x.natAbs : Int)) : ((beh b k t x).natAbs : Int) < (x.natAbs : Int) := by
  have q := h.all _ hx
  unfold grows at q
  have h0 := h.low
  by_cases c : 0 ≤ x
  · have e : ((x.natAbs : Nat) : Int) = x := by omega
    rw [e] at q ⊢
    omega
  · have e : (-((x.natAbs : Nat) : Int)) = x := by omega
    rw [e] at q
    omega
end R
namespace R
open PySem PySem.Spec PyProof.Rows L2
open PySem.W (Frag)
/-- (i, ring) as data -/
def pyIT (i : Int) (L : List Int) : PyData := .tuple [.int i, pyT L]
theorem can_pyIT (i : Int) (L : List Int) : (pyIT i L).canLay0 = true := by
  show (true && ((pyT L).canLay0 && true)) = true
  rw [can_pyT]; rfl
theorem dep_pyIT (i : Int) (L : List Int) : (pyIT i L).depth ≤ 64 := by
  have h := dep_pyT L
  show max 0 (max (pyT L).depth 0) + 1 ≤ 64
  omega
theorem dp_pyIT {K : Frag} {H : Hp} {p q : Addr} {i : Int} {L : List Int} (hp : SqT K H p [.int i, .ref q]) (hq : SqT K H q (L.map V.int)) : Dp K H (.ref p) (pyIT i L) := .tup hp (.cons (.int i) (.cons (dp_pyT hq) .nil))
theorem a_neIT {K : Frag} {H : Hp} {p q p' q' : Addr} {i : Int} {L : List Int} {Q : VK} (hp : SqT K H p [.int i, .ref q]) (hq : SqT K H q (L.map V.int)) (hp' : SqT K H p' [.int i, .ref q']) (hq' : SqT K H q' (L.map V.int)) (h : Q (.bl false) H) : rNeD K (.ref p) (.ref p') H Q :=
  a_neD (dp_pyIT hp hq) (dp_pyIT hp' hq') (can_pyIT i L) (dep_pyIT i L) h
/-- the rows' data -/
def pyTs (Ls : List (List Int)) : PyData := .list (Ls.map pyT)
theorem shaped_pyT (L : List Int) : SeqAt.shaped (pyT L) = true := shaped_of (can_pyT L) (Nat.le_trans (dep_pyT L) (by decide))
theorem can_pyTs (Ls : List (List Int)) : (pyTs Ls).canLay0 = true := canAll_map can_pyT Ls
theorem dep_pyTs (Ls : List (List Int)) : (pyTs Ls).depth ≤ 64 := by
  have h := depthAll_map (f := pyT) (n := 1) dep_pyT Ls
  show PyData.depthAll (Ls.map pyT) + 1 ≤ 64
  omega
theorem dp_pyTs {K : Frag} {H : Hp} {p : Addr} {ps : List (Addr × List Int)} (hp : SqL K H p (refs ps)) (hr : ∀ q ∈ ps, SqT K H q.1 (q.2.map V.int)) : Dp K H (.ref p) (pyTs (ps.map (·.2))) := by
  refine .lst hp ?_
  clear hp
  induction ps with
  | nil => exact .nil
  | cons q ps ih => exact .cons (dp_pyT (hr q List.mem_cons_self)) (ih fun x hx => hr x (List.mem_cons_of_mem _ hx))
theorem a_inTs {K : Frag} {H : Hp} {p q : Addr} {ps : List (Addr × List Int)} {L : List Int} {Q : VK} (hq : SqT K H q (L.map V.int)) (hp : SqL K H p (refs ps)) (hr : ∀ q ∈ ps, SqT K H q.1 (q.2.map V.int)) (hm : L ∈ ps.map (·.2)) (h : Q (.bl true) H) : rInD K (.ref q) (.ref p) H Q := by
  have key : ∀ Ls : List (List Int), L ∈ Ls → Dp K H (.ref p) (pyTs Ls) → rInD K (.ref q) (.ref p) H Q := fun Ls hm hd => by
    refine ⟨pyT L, Ls.map pyT, dp_pyT hq, hd, shaped_pyT L, shaped_of (can_pyTs _) (dep_pyTs _), ?_⟩
    have e : ((Ls.map pyT).any fun z => PyData.eqv z (pyT L)) = true := List.any_eq_true.mpr ⟨pyT L, List.mem_map.mpr ⟨L, hm, rfl⟩, SeqAt.eqv_refl _ (can_pyT L)⟩
    rw [e]; exact h
  exact key _ hm (dp_pyTs hp hr)
/-- the first place ahead of i with p, as a value -/
def FstV (p : Nat → Bool) (i : Nat) (v : V) : Prop := (v = .non ∧ ∀ j, j < i → p j = false) ∨ ∃ j : Nat, v = .int j ∧ j < i ∧ p j = true ∧ ∀ x, x < j → p x = false
theorem FstV.one {p : Nat → Bool} {i : Nat} {v v' : V} (h : FstV p i v) (h' : FstV p i v') : v = v' := by
  rcases h with ⟨rfl, h⟩ | ⟨j, rfl, h1, h2, h3⟩ <;> rcases h' with ⟨rfl, h'⟩ | ⟨j', rfl, h1', h2', h3'⟩
  · rfl
  · rw [h j' h1'] at h2'; cases h2'
  · rw [h' j h1] at h2; cases h2
  · have e : j = j' := by
      rcases Nat.lt_trichotomy j j' with c | c | c
      · rw [h3' j c] at h2; cases h2
      · exact c
      · rw [h3 j' c] at h2'; cases h2'
    rw [e]
end R
namespace R
/-- is the i-th number as small -/
def smallN (F : Int → Int) (n low : Int) (i : Nat) : Bool := decide (((itr F n i).natAbs : Int) ≤ low)
end R
namespace R
open PySem PyProof.Rows L2
theorem units65 {k : Nat} {A : Around} (r : Room k A) : A.units + 65 < cLine := by have := r.un; omega
end R
namespace R
theorem RingOf.head {F : Int → Int} {n x : Int} {L : List Int} (h : RingOf F n L) (hx : L[0]? = some x) : (∃ p, WayOf F x p 0) ∧ RingOf F x L := by
  obtain ⟨m, p, r, rfl, hn⟩ := h
  rw [itrL_at r.pos] at hx
  obtain rfl : m = x := Option.some.inj hx
  exact ⟨⟨p, r.pos, r.back, r.dis⟩, m, p, r, rfl, itrL_mem.mpr ⟨0, r.pos, rfl⟩⟩
theorem itr_40 {F : Int → Int} (h : ∀ n, (F n).natAbs ≤ n.natAbs / 2 + 25501) {n : Int} (hn : -(10 ^ 40) ≤ n ∧ n ≤ 10 ^ 40) (i : Nat) : -(10 ^ 40) ≤ itr F n i ∧ itr F n i ≤ 10 ^ 40 := by
  cases i with
  | zero => exact hn
  | succ i =>
    have q := itr_near h n (i + 1)
    have e : n.natAbs / 2 ^ (i + 1) ≤ n.natAbs / 2 := Nat.div_le_div_left (by rw [Nat.pow_succ]; have := Nat.pow_pos (n := i) (show 0 < 2 by decide); omega) (by decide)
    omega
end R

/-! ## own exceptions: classes under an own base, several clauses, calls of a value -/
namespace R
open PySem PySem.Spec PyProof.Rows L2
open PySem.W (Frag)
/-- what the own base must have so that Base.__init__ is ValueError's -/
structure OinC (K : Frag) (C : Addr) : Prop where
  rd : PySem.W.readsIn K C (.type "type") = true
  ga : PySem.W.specialIn K (.ref C) "__getattribute__" = some (some (.builtin "type.__getattribute__"))
  at_ : PySem.W.findCls K (.ref C) (.type "type") "__init__" = some (.val (.builtin "ValueError.__init__"))
section
variable {X : Cx} {x : Str} {CT : Addr} {e : Expr} {es : List Expr} {ta : TA} {p1 p2 pos : Pos}
theorem pe_oeinit {pl : Sem Bool} (hg : Gl X x) (hm : X.mg x = some (.ref CT)) (T : OinC X.K CT) (ha : PA X (e :: es) ta) (hdb : (x == ("__debug__" : Str)) = false := by decide)
    (hc : eval (.Call (.Attribute (.Name x p1) "__init__" p2) (e :: es) [] pos) X.env = (do
      let ov ← eval (.Name x p1) X.env
      standAt p2.atName
      let (f, first) ← holding [ov] (getMethod ov "__init__" pl)
      callWith pos f first (backTo pos (starEach (e :: es) X.env)) (backToKw pos (keywordEach [] X.env))) := by rfl)
    (he : starEach (e :: es) X.env = (false, eval e X.env) :: starEach es X.env := by rfl) (hpl : (backTo pos (starEach es X.env)).any (·.1) = false := by rfl) :
    PE X (.Call (.Attribute (.Name x p1) "__init__" p2) (e :: es) [] pos) (tVeI X.K ta) := by
  refine ⟨fun pins s σ H Q I h => ?_⟩
  refine PySem.W.methodCall_KW (ld_glob I hg hm ?_ hdb) hc
  refine PySem.W.method_cls I.kIn T.ga (PySem.W.cls_value I.kIn T.rd T.at_ (by decide +kernel) ?_)
  show wpAny _ _ (callWith pos (Value.builtin "ValueError.__init__") [] (backTo pos (starEach (e :: es) X.env)) []) _ _ _
  refine PyProof.Rows.callWith_method1 (thn (ha.run pos pins _ σ H _ (I.tok _) h) fun us s1 ⟨vs, H1, I1, r1, a, C, ws, ev, hl, T, ea, q⟩ => ?_) he hpl
  subst ev
  cases r1 with
  | @cons _ u0 _ ur ra rw' =>
    obtain rfl : u0 = Value.ref a := ra
    have hlen : ur.length ≤ sizeLine := by
      rw [← Paired.length rw', sizeLine_eq]
      omega
    exact oinit_ok T I1 ea hlen fun s' J => ⟨.non, H1, J, rfl, q⟩
end
/-- what an __init__ of an own exception promises: without a field, with one -/
def sp_exc0 (C : Addr) : Sp := fun vs H Q _ => ∃ a, vs = [.ref a] ∧ H a = some (exo a C none) ∧ Q .non H
def sp_exc1 (C : Addr) (f : Str) : Sp := fun vs H Q _ => ∃ a v, vs = [.ref a, v] ∧ H a = some (exo a C none) ∧ ∀ dx, H dx = none → dx ≠ a → Q .non (upd (upd H dx (exd dx [(f, v)])) a (exo a C (some dx)))
theorem del_upd {H : Hp} {a : Addr} {o : HO} (h : H a = none) : del (upd H a o) a = H := by
  funext b
  by_cases z : b = a
  · rw [z, del_same, h]
  · rw [del_ne z, upd_ne z]
section
variable {X : Cx}
theorem mk_endN {pins : List (Addr × Obj)} {σ : L2.St} {H1 H2 : Hp} {Q : XK} {hp hp2 h2 : Heap} {g1 g2 : Array GenState} {d1 d2 : Drawn} {t1 t2 : Nat} {os1 os2 : OsState} {a C : Addr} (T : Raises X (.ref C)) (I1 : Inv X pins σ H1 ⟨hp, g1, d1, t1, os1⟩)
    (ha : hp.objs.size ≤ a) (k : ∀ b o, hp.get? b = some o → hp2.get? b = some o) (un : Un (frs X.stack) [] (upd H1 a (exo a C none)) H2 hp2 h2) (hok : HOk X.prog X.w H2 h2) (ho : os2 = os1) (hb : AllBare g2)
    (ea : H2 a = some (exo a C none)) (q : Q (.ref C) none (del H2 a)) : MkP X pins σ Q (.ref a) ⟨h2, g2, d2, t2, os2⟩ := by
  obtain ⟨t0, hoe⟩ := exo_at hok ea
  have hn : H1 a = none := I1.hok.fresh ha
  obtain ⟨G, g1', g2'⟩ := restrict h2 fun b => decide (b ≠ a)
  have gk : ∀ b, b ≠ a → G.get? b = h2.get? b := fun b hb => g1' b (decide_eq_true hb)
  have ge : G.get? a = none := g2' a (by simp)
  have nha : ∀ {b : Addr} {o : Obj}, hp.get? b = some o → b ≠ a := fun {b o} z => Nat.ne_of_lt (Nat.lt_of_lt_of_le (Heap.lt_size z) ha)
  have up : ∀ {b : Addr}, b ≠ a → H1 b = none → upd H1 a (exo a C none) b = none := fun {b} hb n => by rw [upd_ne hb]; exact n
  have U : Un (frs X.stack) [] H1 (del H2 a) hp G := {
    keep := fun b o z n hf hx => by
      rw [gk b (nha z)]
      exact un.keep b o (k b o z) (up (nha z) n) hf hx
    slot := fun b o z n hf hx => by
      rw [gk b (nha z)]
      exact un.slot b o (k b o z) (up (nha z) n) hf hx
    free := fun b o z n hx => by
      rw [del_ne (nha z)]
      exact un.free b o (k b o z) (up (nha z) n) hx
    there := fun b o z hx => by
      rw [gk b (nha z)]
      exact un.there b o (k b o z) hx
    tups := fun b xs z => by
      rw [del_ne (ne_of_none z hn)]
      exact un.tups b xs (by rw [upd_ne (ne_of_none z hn)]; exact z)
    frzs := fun b o v z => by
      rw [del_ne (ne_of_none z hn)]
      exact un.frzs b o v (by rw [upd_ne (ne_of_none z hn)]; exact z)
    tbls := fun b ps z => by
      rw [del_ne (ne_of_none z hn)]
      exact un.tbls b ps (by rw [upd_ne (ne_of_none z hn)]; exact z) }
  have hok3 : HOk X.prog X.w (del H2 a) G := fun b o z => by
    have hba : b ≠ a := fun e => by
      rw [e, del_same] at z
      cases z
    rw [del_ne hba] at z
    have noa : ∀ {c : Addr}, H2 c = some (.own b) → c ≠ a := fun {c} hc => at_ne ea hc exo_own
    exact (hok b o z).stay (fun c v hc y => by
        have hca : c ≠ a := by
          rcases hc with hc | hc
          · rw [hc]
            exact hba
          · exact noa hc
        rw [gk c hca]
        exact y)
      (fun c hc => by rw [del_ne (noa hc)]; exact hc) (fun c xs hc => by rw [del_ne (at_ne ea hc exo_tup)]; exact hc)
  have J : Inv X pins σ (del H2 a) ⟨G, g2, d2, t2, os2⟩ := I1.call' (ch := []) ho U hok3 hb (fun b z => absurd z (by simp))
  refine ⟨a, _, _, ⟨G, g2, d2, t2, os2⟩, _, .ref C, none, rfl, J, fun b o z => ?_, ge, hoe, ⟨rfl, rfl⟩, rfl, rfl, del_same, rfl, hb, T, q⟩
  by_cases hba : b = a
  · rw [hba, ge] at z
    cases z
  · exact (gk b hba).symm.trans z
variable {x : Str} {C fI : Addr} {k : Nat} {fd : FuncData} {ps : List Str} {p pos pos2 : Pos} {W : WX} {f : Str} {e : Expr} {ta : TA}
/-- C() -/
theorem pmk_bad0 (T : OexC X.K C) (iC : PySem.W.findIn X.K (.ref C) "__init__" = some (some (.ref fI))) (tI : PySem.W.typeIn X.K (.ref fI) = some (.type "function"))
    (F1 : FnOk X.prog X.w X.K X.mg X.base CX0 k fI fd ps (sp_exc0 C)) (hr : Room (k + 1) X.A) (hb : Binds X.K fd ps []) (hg : Gl X x) (hm : X.mg x = some (.ref C)) (hdb : (x == ("__debug__" : Str)) = false := by decide) :
    PMk X (.Call (.Name x p) [] [] pos) (fun _ H Q => Q (.ref C) none H) := by
  intro pins s σ H Q I h
  obtain ⟨nm, q, N, bs, bm, sn, sub, ab, col, dd, k0, k1, k2, k3, k5, hC, hbm⟩ := T.cls
  refine wpAny_Call_Name_kw (ld_glob I hg hm ?_ hdb)
  refine PySem.W.callWith_K0 I.kIn T.kC ?_
  show wpAny _ _ (call (.ref C) []) _ _ _
  obtain ⟨hp, g, dr, tk, os⟩ := s
  have hsz : hp.objs.size ≤ hp.objs.size + 1 := Nat.le_succ _
  have hn : H (hp.objs.size + 1) = none := I.hok.fresh hsz
  have hq : sp_exc0 C [V.ref (hp.objs.size + 1)] (upd H (hp.objs.size + 1) (exo (hp.objs.size + 1) C none)) (fun v H2 => v = .non ∧ H2 (hp.objs.size + 1) = some (exo (hp.objs.size + 1) C none) ∧ Q (.ref C) none (del H2 (hp.objs.size + 1))) (fun _ _ _ => False) :=
    ⟨_, rfl, upd_same, rfl, upd_same, by rw [del_upd hn]; exact h⟩
  have kk : ∀ b o, hp.get? b = some o → ((hp.push (PySem.W.kdv_tup [])).push (PySem.HandSPX.excO C hp.objs.size)).get? b = some o := fun b o e => Heap.get?_push_of_some _ (Heap.get?_push_of_some _ e)
  have hget : ((hp.push (PySem.W.kdv_tup [])).push (PySem.HandSPX.excO C hp.objs.size)).get? (hp.objs.size + 1) = some (PySem.HandSPX.excO C hp.objs.size) := by heap_get
  have I2 : Inv X pins σ (upd H (hp.objs.size + 1) (exo (hp.objs.size + 1) C none)) ⟨(hp.push (PySem.W.kdv_tup [])).push (PySem.HandSPX.excO C hp.objs.size), g, dr, tk, os⟩ :=
    I.laid (t' := tk) (a := hp.objs.size + 1) (o := exo (hp.objs.size + 1) C none) (h' := (hp.push (PySem.W.kdv_tup [])).push (PySem.HandSPX.excO C hp.objs.size)) kk hsz (exo_ok hget)
  have r2 : Vals [V.ref (hp.objs.size + 1)] [Value.ref (hp.objs.size + 1)] := .cons rfl .nil
  have hl : ([Value.ref (hp.objs.size + 1)] ++ []).length = ps.length := by
    have e := r2.length
    rw [F1.len _ _ _ _ hq] at e
    exact e.symm
  refine wpAny_call (PySem.HandSPX.call_own F.excBase_ValueError (fun Y => PySem.HandSPX.refsVE_contains Y bm hbm) (I.kIn _ _ hC) (PySem.W.looks_findIn I.kIn iC) (fun self => PySem.W.bind_fn I.kIn self tI) (Nat.zero_le _)
    (codeAny_mono (F1.run _ X.stack _ _ ⟨[Value.ref (hp.objs.size + 1)], []⟩ [Value.ref (hp.objs.size + 1)] _ _ (fun _ _ _ => False) (hr.make C [] []) (I2.env0.make C [] []) (hb _ [Value.ref (hp.objs.size + 1)] I2.kIn hl) r2 hq) fun r s' hq' => ?_))
  cases r with
  | error er => exact hq'.elim
  | ok fl =>
    cases fl with
    | ret u =>
      obtain ⟨v, H2, os2, bare2, un2, hok2, rv, ev, ea, q2⟩ := hq'
      subst ev
      obtain ⟨h2, g2, d2, t2, os'⟩ := s'
      exact ⟨rv, mk_endN (raises_own T.exC T.tyC) I hsz kk un2 hok2 os2 bare2 ea q2⟩
    | next => exact False.elim hq'
    | brk => exact False.elim hq'
    | cont => exact False.elim hq'
def tRaise0 (C : Addr) (W : WX) : TS := fun _ σ H => W (.ref C) none σ H
def R1 (C : Addr) (f : Str) (vs : List V) (H1 : Hp) (Q : XK) : Prop := vs.length ≤ 1000 ∧ ∀ a, H1 a = none → sp_exc1 C f (.ref a :: (vs ++ [])) (upd H1 a (exo a C none))
  (fun v H2 => v = .non ∧ ∃ (d : Addr) (fs : List (Str × V)), H2 a = some (exo a C (some d)) ∧ H2 d = some (exd d fs) ∧ H1 d = none ∧ Q (.ref C) (some d) (upd (del H2 a) d (.xd fs))) (fun _ _ _ => False)
def tRaise1 (C : Addr) (f : Str) (W : WX) (ta : TA) : TS := fun _ σ H => ta σ H fun vs H1 => R1 C f vs H1 fun cls d H' => W cls d σ H'
theorem ps_raise0 (hc : X.calm = true) (tk : Takes X W) (T : OexC X.K C) (iC : PySem.W.findIn X.K (.ref C) "__init__" = some (some (.ref fI))) (tI : PySem.W.typeIn X.K (.ref fI) = some (.type "function"))
    (F1 : FnOk X.prog X.w X.K X.mg X.base CX0 k fI fd ps (sp_exc0 C)) (hr : Room (k + 1) X.A) (hb : Binds X.K fd ps []) (hg : Gl X x) (hm : X.mg x = some (.ref C)) (hdb : (x == ("__debug__" : Str)) = false := by decide) :
    PS X (.Raise (some (.Call (.Name x p) [] [] pos)) none pos2) (tRaise0 C W) := ps_raise hc tk (pmk_bad0 T iC tI F1 hr hb hg hm hdb)
theorem ps_raise1 (hc : X.calm = true) (tk : Takes X W) (T : OexC X.K C) (iC : PySem.W.findIn X.K (.ref C) "__init__" = some (some (.ref fI))) (tI : PySem.W.typeIn X.K (.ref fI) = some (.type "function"))
    (F1 : FnOk X.prog X.w X.K X.mg X.base CX0 k fI fd ps (sp_exc1 C f)) (hr : Room (k + 1) X.A) (hb : Binds X.K fd ps []) (hg : Gl X x) (hm : X.mg x = some (.ref C)) (ha : PA X [e] ta) (hdb : (x == ("__debug__" : Str)) = false := by decide)
    (he : starEach (e :: []) X.env = (false, eval e X.env) :: starEach [] X.env := by rfl) (hpl : (backTo pos (starEach [] X.env)).any (·.1) = false := by rfl) :
    PS X (.Raise (some (.Call (.Name x p) [e] [] pos)) none pos2) (tRaise1 C f W ta) := ps_raise hc tk (pmk_oex T iC tI F1 hr hb .nil (fun _ _ _ _ _ _ _ z => z.elim) hg hm ha hdb he hpl)
theorem a_raise0 {D : Ends} {σ : L2.St} {H : Hp} (h : W (.ref C) none σ H) : tRaise0 C W D σ H := h
theorem a_raise1 {D : Ends} {σ : L2.St} {H : Hp} (h : ta σ H fun vs H1 => R1 C f vs H1 fun cls d H' => W cls d σ H') : tRaise1 C f W ta D σ H := h
theorem a_r1 {v : V} {H1 : Hp} {Q : XK} (h : ∀ d, H1 d = none → Q (.ref C) (some d) (upd H1 d (.xd [(f, v)]))) : R1 C f [v] H1 Q := by
  refine ⟨(by show 1 ≤ 1000; decide), fun a ha => ⟨a, v, rfl, upd_same, fun dx hdx ne => ⟨rfl, dx, [(f, v)], upd_same, ?_, ?_, ?_⟩⟩⟩
  · rw [upd_ne ne, upd_same]
  · rw [upd_ne ne] at hdx; exact hdx
  · have hd1 : H1 dx = none := by rw [upd_ne ne] at hdx; exact hdx
    have e : upd (del (upd (upd (upd H1 a (exo a C none)) dx (exd dx [(f, v)])) a (exo a C (some dx))) a) dx (.xd [(f, v)]) = upd H1 dx (.xd [(f, v)]) := by
      funext b
      by_cases z : b = dx
      · rw [z, upd_same, upd_same]
      · rw [upd_ne z, upd_ne z]
        by_cases y : b = a
        · rw [y, del_same, ha]
        · rw [del_ne y, upd_ne y, upd_ne z, upd_ne y]
    rw [e]
    exact h dx hd1
end
/-! ### readings of the __init__s -/
section
variable {K : Frag} {ta : TA} {to te : TE} {f : Str} {σ : L2.St} {H : Hp} {Q : VK} {D : Ends}
theorem a_vei (h : ta σ H fun vs H1 => ∃ (a C : Addr) (ws : List V), vs = .ref a :: ws ∧ ws.length ≤ 1000 ∧ OexC K C ∧ H1 a = some (exo a C none) ∧ Q .non H1) : tVeI K ta σ H Q := h
def rOst (K : Frag) (f : Str) (y x : V) (H2 : Hp) (P : Hp → Prop) : Prop := ∃ a C : Addr, x = .ref a ∧ OexC K C ∧ PySem.W.findIn K (.ref C) f = some none ∧
  ((H2 a = some (exo a C none) ∧ ∀ dx, H2 dx = none → dx ≠ a → P (upd (upd H2 dx (exd dx [(f, y)])) a (exo a C (some dx)))) ∨
    ∃ (dx : Addr) (fs : List (Str × V)), H2 a = some (exo a C (some dx)) ∧ H2 dx = some (exd dx fs) ∧ fs.length ≤ 900 ∧ P (upd H2 dx (exd dx ((f, y) :: fs))))
theorem a_ost (h : te σ H fun y H1 => to σ H1 fun x H2 => rOst K f y x H2 fun H3 => D.nx σ H3) : tOst K f to te D σ H := h
end
/-! ### try: several clauses, with or without a name -/
def asTs (i : Nat) (ts : Addr → Value → Option Addr → TS) : Addr → Value → Option Addr → TS := fun a cls d D σ H =>
  ts a cls d { nx := fun σ' H' => D.nx (σ'.set i none) H', rt := D.rt, bk := fun σ' H' => D.bk (σ'.set i none) H', ct := fun σ' H' => D.ct (σ'.set i none) H' } (σ.set i (some (.ref a))) H
def wEx (K : Frag) (Wout : WX) (D : Ends) : List (Value × (Addr → Value → Option Addr → TS)) → WX
  | [] => Wout
  | (c, ts) :: r => fun cls d σ H => ∃ b, PySem.W.exmOne K cls c = some b ∧ (b = true → ∀ a, H a = none → ts a cls d D σ H) ∧ (b = false → wEx K Wout D r cls d σ H)
inductive HdsX (X : Cx) : List ExceptHandler → List (Value × (Addr → Value → Option Addr → TS)) → Prop
  | nil : HdsX X [] []
  | cons {x : Str} {c : Value} {ts : Addr → Value → Option Addr → TS} {b₀ : Stmt} {suite : List Stmt} {np pos' : Pos} {hds : List ExceptHandler} {l : List (Value × (Addr → Value → Option Addr → TS))} (hc : Names X x c)
      (hsu : ∀ (a : Addr) (oe : Obj) (cls : Value) (d : Option Addr) (pn : List (Addr × Obj)), Zc cls d oe → (∃ vs, oe.data = .fields vs) → PSs (X.suite a ((a, oe) :: pn)) (b₀ :: suite) (ts a cls d)) (r : HdsX X hds l) :
      HdsX X (.ExceptHandler (some (.Name x np)) none (b₀ :: suite) pos' :: hds) ((c, ts) :: l)
  | as {x n : Str} {c : Value} {i : Nat} {ts : Addr → Value → Option Addr → TS} {b₀ : Stmt} {suite : List Stmt} {np pos' : Pos} {hds : List ExceptHandler} {l : List (Value × (Addr → Value → Option Addr → TS))} (hi : X.N[i]? = some n) (hln : X.env.kindOf n = some .local) (hc : Names X x c)
      (hsu : ∀ (a : Addr) (oe : Obj) (cls : Value) (d : Option Addr) (pn : List (Addr × Obj)), Zc cls d oe → (∃ vs, oe.data = .fields vs) → PSs (X.suite a ((a, oe) :: pn)) (b₀ :: suite) (ts a cls d)) (r : HdsX X hds l) :
      HdsX X (.ExceptHandler (some (.Name x np)) (some n) (b₀ :: suite) pos' :: hds) ((c, asTs i ts) :: l)
def tTry (K : Frag) (Wout : WX) (l : List (Value × (Addr → Value → Option Addr → TS))) (tb : WX → TS) : TS := fun D σ H => tb (wEx K Wout D l) D σ H
section
variable {X : Cx} {body : List Stmt} {h₀ : ExceptHandler} {hds : List ExceptHandler} {l : List (Value × (Addr → Value → Option Addr → TS))} {pos : Pos} {tb : WX → TS} {Wout : WX}
theorem ps_try_mix (hs : X.stack = X.env :: X.outer) (hf : X.env.frame = some X.env.locals) (hN : X.N.Nodup) (tk : Takes X Wout)
    (hb : ∀ (W : WX) (pn : List (Addr × Obj)) (xe : Value → Shared → Prop), Takes (X.tr pn xe) W → PassesOwn (model X.prog X.w) X.A X.env xe → PSs (X.tr pn xe) body (tb W))
    (hh : HdsX X (h₀ :: hds) l) : PS X (.Try body (h₀ :: hds) [] [] pos) (tTry X.K Wout l tb) := by
  refine ⟨fun pins s σ H D I h => ?_⟩
  have ok := I.ok
  have hfr : X.A.frames = some (X.env :: X.outer) := by rw [ok.frames, hs]
  refine wpAny_Try_except ?_
  refine wpAny_mono ((hb (wEx X.K Wout D l) (X.pn ++ pins) (fun e s₁ => wpAny (model X.prog X.w) X.A (noteFrame e X.env) (fun _ s₂ => wpAny (model X.prog X.w) X.A (setFlight e none) (fun _ s₃ =>
    wpAny (model X.prog X.w) X.A (handleBy e X.env (h₀ :: hds)) (SP X pins D) X.xe s₃) X.xe s₂) X.xe s₁) (fun u s' xx => ?_) PassesOwn.looking).run [] s σ H D (I.toTry _) h) (fun f s1 hsp => ?_) (fun e s1 he => he)
  · obtain ⟨a, B, sI, pins', σ', H', cls, d, rfl, J', nb, up, sky, na, os, ag, w⟩ := xx
    have J : Inv X pins σ' H' sI := J'.ofTry ok
    have sky' : Sky B (X.env :: X.outer) a (Zc cls d) X.env.locals s'.heap := by rw [← hs]; exact sky
    show wpAny (model X.prog X.w) X.A (noteFrame (.ref a) X.env) _ _ _
    refine Sky.land Zc.steady hfr hf sky' fun h3 fl3 up3 => ?_
    have J3 : Inv X pins σ' H' { s' with heap := h3 } := J.landed nb fl3.1 (up.trans up3) os ag
    obtain ⟨oe3, vs3, he3, hz3, hd3⟩ := fl3.there
    have notFr : ∀ {h : Heap} {o : Obj} {vs : Array Value}, h.FunFrames B (X.env :: X.outer) → h.get? a = some o → o.data = .fields vs → a ∉ frs (X.env :: X.outer) := fun {h o vs} ff e dd hm => by
      obtain ⟨_, o', e', hnf⟩ := ff.mem hm
      rw [e] at e'; cases e'
      exact hnf _ dd
    have nfr := notFr fl3.2.2.1 he3 hd3
    have nL : a ≠ X.env.locals := fun z => nfr (List.mem_filterMap.mpr ⟨X.env, List.mem_cons_self, by rw [hf, z]⟩)
    have nF : a ∉ X.fs := fun hm => by
      obtain ⟨e, he, q⟩ := List.mem_filterMap.mp hm
      exact nfr (List.mem_filterMap.mpr ⟨e, List.mem_cons_of_mem _ he, q⟩)
    have S3 := J3.suite he3 hd3 na nL nF
    have LT : PySem.W.Looks (model X.prog X.w) h3 (typeOf (.ref a)) cls := fun A Q E s k q => wpAny_typeOf_ref (k _ _ he3) (by rw [hz3.1]; exact q)
    have test : ∀ {x : Str} {c : Value} {np : Pos} {Q : Value → Shared → Prop} {E : Value → Shared → Prop}, Names X x c → Q c { s' with heap := h3 } → wpAny (model X.prog X.w) (X.A.mark (some (.ref a))) (eval (.Name x np) X.env) Q E { s' with heap := h3 } := fun {x c np Q E} hc q => by
      obtain ⟨hg, hdbg, hm | ⟨hm, hv, hnn⟩⟩ := hc
      · exact ld_glob (X := X.suite a ((a, oe3) :: (X.pn ++ pins))) S3 hg hm q hdbg
      · exact ld_blt (X := X.suite a ((a, oe3) :: (X.pn ++ pins))) S3 hg hm hv q hnn hdbg
    have go : ∀ {hds' : List ExceptHandler} {l' : List (Value × (Addr → Value → Option Addr → TS))}, HdsX X hds' l' → wEx X.K Wout D l' cls d σ' H' →
        wpAny (model X.prog X.w) X.A (handleBy (.ref a) X.env hds') (SP X pins D) X.xe { s' with heap := h3 } := by
      intro hds' l' hk
      induction hk with
      | nil =>
        intro w
        refine wpAny_handleBy_nil ?_
        obtain ⟨k1, k2, k3, oe, vs, T, oT, ts', he, hz, hd, h1, hr⟩ := id fl3
        unfold PySem.passOn
        refine wpAny_bind (wpAny_field he hd h1 ?_)
        rw [if_neg (show ¬ ((Value.ref T == Value.none) = true) from by simp)]
        have fin : wpAny (model X.prog X.w) X.A (setFlight (.ref a) X.env.frame) (fun _ s4 => wpAny (model X.prog X.w) X.A (throw (.ref a) : Sem Flow) (SP X pins D) X.xe s4) X.xe { s' with heap := h3 } := by
          rw [hf]
          refine HandSPX.setFlight_upZ fl3 fun h4 hh4 up4 => wpAny_throw (tk _ _ ?_)
          exact ⟨a, B, sI, pins, σ', H', cls, d, rfl, J, nb, (up.trans up3).trans up4, .inr (.inr (by rw [hs]; exact hh4)), na, os, ag, w⟩
        first
          | exact wpAny_bind (wpAny_pure (wpAny_bind fin))
          | exact wpAny_bind fin
      | @cons x c ts b₀ suite np pos' hds2 l2 hc hsu r ih =>
        intro w
        obtain ⟨b, hb1, hyes, hno⟩ := w
        refine wpAny_handleBy_cons (codeAny_handlers_test ?_) (by intro q; cases q)
        have LM := PySem.W.exm_one (M := model X.prog X.w) (J3.kIn) LT hb1
        refine test hc (LM.here ?_)
        cases b with
        | true =>
          refine codeAny_handlers_suite ?_
          refine HandSPX.lands_againZ fl3 fun h4 fl4 up4 => ?_
          have J4 : Inv X pins σ' H' { s' with heap := h4 } := J.landed nb fl4.1 ((up.trans up3).trans up4) os ag
          obtain ⟨oe4, vs4, he4, hz4, hd4⟩ := fl4.there
          have S4 := J4.suite he4 hd4 na nL nF
          refine wpAny_mono ((hsu a oe4 cls d (X.pn ++ pins) hz4 ⟨_, hd4⟩).run [] _ _ H' _ S4 (hyes rfl a na)) (fun f s6 hsp => ?_) (fun _ _ z => False.elim z)
          cases f with
          | next =>
            obtain ⟨σ6, H6, S6, q6⟩ := hsp
            exact ⟨_, _, S6.unsuite ok, q6⟩
          | brk =>
            obtain ⟨σ6, H6, S6, q6⟩ := hsp
            exact ⟨_, _, S6.unsuite ok, q6⟩
          | cont =>
            obtain ⟨σ6, H6, S6, q6⟩ := hsp
            exact ⟨_, _, S6.unsuite ok, q6⟩
          | ret u =>
            obtain ⟨v6, σ6, H6, S6, r6, q6⟩ := hsp
            exact ⟨_, _, _, S6.unsuite ok, r6, q6⟩
        | false =>
          show wpAny _ X.A (handleBy (.ref a) X.env hds2) _ _ _
          exact ih (hno rfl)
      | @as x n c i ts b₀ suite np pos' hds2 l2 hi hln hc hsu r ih =>
        intro w
        obtain ⟨b, hb1, hyes, hno⟩ := w
        have hloc : Loc X.env.scope n := .inl hln
        refine wpAny_handleBy_cons (codeAny_handlers_test ?_) (by intro q; cases q)
        have LM := PySem.W.exm_one (M := model X.prog X.w) (J3.kIn) LT hb1
        refine test hc (LM.here ?_)
        cases b with
        | true =>
          refine codeAny_handlers_suite_as ?_
          refine HandSPX.lands_againZ fl3 fun h4 fl4 up4 => ?_
          have J4 : Inv X pins σ' H' { s' with heap := h4 } := J.landed nb fl4.1 ((up.trans up3).trans up4) os ag
          obtain ⟨oe4, vs4, he4, hz4, hd4⟩ := fl4.there
          have S4 := J4.suite he4 hd4 na nL nF
          refine store_ok (X := X.suite a ((a, oe4) :: (X.pn ++ pins))) (v := .ref a) S4 hN hi hloc rfl (fun s5 S5 => ?_) (.inr hln)
          refine wpAny_mono ((hsu a oe4 cls d (X.pn ++ pins) hz4 ⟨_, hd4⟩).run [] s5 _ H' _ S5 (hyes rfl a na)) (fun f s6 hsp => ?_) (fun _ _ z => False.elim z)
          have end_ : ∀ {σ6 : L2.St} {H6 : Hp} {Q : Shared → Prop}, Inv (X.suite a ((a, oe4) :: (X.pn ++ pins))) [] σ6 H6 s6 → (∀ s7, Inv X pins (σ6.set i none) H6 s7 → Q s7) →
              wpAny (model X.prog X.w) X.A (do bindName X.env n .none; unbindBehindTheSuite X.env n pos') (fun _ s7 => Q s7) X.xe s6 := fun {σ6 H6 Q} S6 hq => gone_ok (S6.unsuite ok) hN hi hln hq
          cases f with
          | next =>
            obtain ⟨σ6, H6, S6, q6⟩ := hsp
            exact end_ S6 fun s7 J7 => ⟨_, _, J7, q6⟩
          | brk =>
            obtain ⟨σ6, H6, S6, q6⟩ := hsp
            exact end_ S6 fun s7 J7 => ⟨_, _, J7, q6⟩
          | cont =>
            obtain ⟨σ6, H6, S6, q6⟩ := hsp
            exact end_ S6 fun s7 J7 => ⟨_, _, J7, q6⟩
          | ret u =>
            obtain ⟨v6, σ6, H6, S6, r6, q6⟩ := hsp
            exact end_ S6 fun s7 J7 => ⟨_, _, _, J7, r6, q6⟩
        | false =>
          show wpAny _ X.A (handleBy (.ref a) X.env hds2) _ _ _
          exact ih (hno rfl)
    exact go hh w
  · cases f with
    | next =>
      obtain ⟨σ', H', J', q⟩ := hsp
      exact wpAny_execs_nil ⟨σ', H', J'.ofTry ok, q⟩
    | brk =>
      obtain ⟨σ', H', J', q⟩ := hsp
      exact ⟨σ', H', J'.ofTry ok, q⟩
    | cont =>
      obtain ⟨σ', H', J', q⟩ := hsp
      exact ⟨σ', H', J'.ofTry ok, q⟩
    | ret u =>
      obtain ⟨v, σ', H', J', r, q⟩ := hsp
      exact ⟨v, σ', H', J'.ofTry ok, r, q⟩
end
section
variable {K : Frag} {Wout : WX} {D : Ends} {l r : List (Value × (Addr → Value → Option Addr → TS))} {tb : WX → TS} {σ : L2.St} {H : Hp} {cls c : Value} {d : Option Addr} {ts : Addr → Value → Option Addr → TS}
theorem a_try (h : tb (wEx K Wout D l) D σ H) : tTry K Wout l tb D σ H := h
theorem a_exNo (e : PySem.W.exmOne K cls c = some false) (h : wEx K Wout D r cls d σ H) : wEx K Wout D ((c, ts) :: r) cls d σ H := ⟨false, e, fun z => Bool.noConfusion z, fun _ => h⟩
theorem a_exYes (e : PySem.W.exmOne K cls c = some true) (h : ∀ a, H a = none → ts a cls d D σ H) : wEx K Wout D ((c, ts) :: r) cls d σ H := ⟨true, e, fun _ => h, fun z => Bool.noConfusion z⟩
theorem a_as {a : Addr} {i : Nat} (h : ts a cls d { nx := fun σ' H' => D.nx (σ'.set i none) H', rt := D.rt, bk := fun σ' H' => D.bk (σ'.set i none) H', ct := fun σ' H' => D.ct (σ'.set i none) H' } (σ.set i (some (.ref a))) H) : asTs i ts a cls d D σ H := h
theorem a_xf {te : TE} {Q : VK} {a C : Addr} {f : Str} (h : te σ H fun x H1 => x = .ref a ∧ cls = .ref C ∧ ∃ (dd : Addr) (fs : List (Str × V)) (v : V), d = some dd ∧ H1 dd = some (.xd fs) ∧ fs.lookup f = some v ∧ Q v H1) : tXf a cls d C f te σ H Q := h
end
/-! ### calls of a value; calls within a try's body -/
section
variable {X : Cx} {CX : CXT} {k : Nat} {f C : Addr} {fd : FuncData} {ps : List Str} {sp : Sp} {dvs : List V} {ds : List Value} {E : L2.St → XK} {x m : Str} {p pos : Pos} {e fe : Expr} {es : List Expr} {ta : TE} {t : TA}
/-- the def that stands at f, with what it promises -/
structure HeldX (X : Cx) (CX : CXT) (k : Nat) (f : Addr) (sp : Sp) : Prop where
  ex : ∃ (fd : FuncData) (ps : List Str), FnOk X.prog X.w X.K X.mg X.base CX k f fd ps sp ∧ PySem.W.keepIn X.K (.ref f) = true ∧ Binds X.K fd ps []
theorem heldX (F : FnOk X.prog X.w X.K X.mg X.base CX k f fd ps sp) (hk : PySem.W.keepIn X.K (.ref f) = true) (hb : Binds X.K fd ps []) : HeldX X CX k f sp := ⟨fd, ps, F, hk, hb⟩
theorem HeldX.mono {j : Nat} (h : HeldX X CX j f sp) (jk : j ≤ k) : HeldX X CX k f sp := by
  obtain ⟨fd, ps, F, hk, hb⟩ := h.ex
  exact ⟨fd, ps, F.mono jk, hk, hb⟩
theorem passAt0 {E : XK} (σ : L2.St) : PassesAt CX0 X σ E := fun _ _ _ _ _ _ h => h.elim
theorem held_nil : ∀ q ∈ ([] : List (Addr × Sp)), HeldX X CX k q.1 q.2 := fun _ h => by simp at h
theorem held_cons {S : List (Addr × Sp)} (h : HeldX X CX k f sp) (t : ∀ q ∈ S, HeldX X CX k q.1 q.2) : ∀ q ∈ (f, sp) :: S, HeldX X CX k q.1 q.2 := fun q hq => by
  rcases List.mem_cons.mp hq with rfl | hq
  · exact h
  · exact t q hq
def tCallV (S : List (Addr × Sp)) (E : L2.St → XK) (tf : TE) (t : TA) : TE := fun σ H Q => tf σ H fun v H1 => ∃ f sp, v = .ref f ∧ (f, sp) ∈ S ∧ t σ H1 fun vs H2 => sp vs H2 Q (E σ)
theorem pe_callV {S : List (Addr × Sp)} {tf : TE} (A : ∀ q ∈ S, HeldX X CX k q.1 q.2) (hr : Room k X.A) (hx : ∀ σ, PassesAt CX X σ (E σ)) (hf : PE X fe tf) (ha : PA X (e :: es) t)
    (hc : eval (.Call fe (e :: es) [] pos) X.env = (do callWith pos (← eval fe X.env) [] (backTo pos (starEach (e :: es) X.env)) (backToKw pos (keywordEach [] X.env))) := by rfl)
    (he : starEach (e :: es) X.env = (false, eval e X.env) :: starEach es X.env := by rfl) (hpl : (backTo pos (starEach es X.env)).any (·.1) = false := by rfl) :
    PE X (.Call fe (e :: es) [] pos) (tCallV S E tf t) := by
  refine ⟨fun pins s σ H Q I h => ?_⟩
  rw [hc]
  refine wpAny_bind (thn (hf.run pins s σ H _ I h) fun u s1 ⟨v, H1, I1, r1, f, sp, ev, hS, q1⟩ => ?_)
  subst ev
  obtain rfl : u = Value.ref f := r1
  obtain ⟨fd, ps, F, hk, hb⟩ := (A _ hS).ex
  refine PySem.W.callWith_K (h₀ := X.base) I.ok.mod.kin hk (thn (ha.run pos pins s1 σ _ _ I1 q1) fun us s2 ⟨vs, H2, I2, r, q⟩ => ⟨I2.kIn, ?_⟩) he hpl
  exact run_fnS F hr hb (hx σ) I2 r q
theorem a_meth {C : Addr} {dvs : List V} {E : XK} {σ : L2.St} {H : Hp} {Q : VK} (h : ta σ H fun x H1 => ∃ a dx fs, x = .ref a ∧ H1 a = some (.ins C dx fs) ∧ fs.lookup m = none ∧ t σ H1 fun vs H2 => sp (x :: (vs ++ dvs)) H2 Q E) : tMeth C m sp dvs E ta t σ H Q := h
theorem a_callV {S : List (Addr × Sp)} {tf : TE} {σ : L2.St} {H : Hp} {Q : VK} (h : tf σ H fun v H1 => ∃ f sp, v = .ref f ∧ (f, sp) ∈ S ∧ t σ H1 fun vs H2 => sp vs H2 Q (E σ)) : tCallV S E tf t σ H Q := h
theorem a_callS {σ : L2.St} {H : Hp} {Q : VK} (h : t σ H fun vs H1 => sp vs H1 Q (E σ)) : tCallS sp E t σ H Q := h
/-- an own instance made within a try's body -/
def tMakeS (C : Addr) (sp : Sp) (dvs : List V) (E : L2.St → XK) (t : TA) : TE := fun σ H Q => t σ H fun vs H1 => ∀ x dx, H1 x = none → H1 dx = none → dx ≠ x →
  sp (.ref x :: (vs ++ dvs)) (upd (upd H1 dx (.own x)) x (.ins C dx [])) (fun v H2 => v = .non ∧ Q (.ref x) H2) (E σ)
theorem run_makeS {pins : List (Addr × Obj)} {σ : L2.St} {H : Hp} {s : Shared} {Q : VK} {us : List Value} {vs : List V} (M : Mk X.K C f) (F : FnOk X.prog X.w X.K X.mg X.base CX k f fd ps sp) (hr : Room (k + 1) X.A) (hb : Binds X.K fd ps ds) (hd : Vals dvs ds)
    (hx : PassesAt CX X σ (E σ)) (I : Inv X pins σ H s) (r : Vals vs us)
    (h : ∀ x dx, H x = none → H dx = none → dx ≠ x → sp (.ref x :: (vs ++ dvs)) (upd (upd H dx (.own x)) x (.ins C dx [])) (fun v H2 => v = .non ∧ Q (.ref x) H2) (E σ)) :
    wpAny (model X.prog X.w) X.A (call (.ref C) us) (EP X pins σ Q) X.xe s := by
  have hq := h (s.heap.objs.size + 1) s.heap.objs.size (I.hok.fresh (Nat.le_succ _)) (I.hok.fresh (Nat.le_refl _)) (Nat.ne_of_lt (Nat.lt_succ_self _))
  have I2 := Inv.made (C := C) I
  have r2 : Vals (V.ref (s.heap.objs.size + 1) :: (vs ++ dvs)) (Value.ref (s.heap.objs.size + 1) :: (us ++ ds)) := .cons rfl (r.append hd)
  have hl : (Value.ref (s.heap.objs.size + 1) :: us ++ ds).length = ps.length := by
    have e := r2.length
    rw [F.len _ _ _ _ hq] at e
    exact e.symm
  refine wpAny_call (make_map (f := f) I.kIn M.makes M.init (beq_iff_eq.mp M.fn) (codeAny_mono (F.run _ X.stack _ _ ⟨Value.ref (s.heap.objs.size + 1) :: us, []⟩ (Value.ref (s.heap.objs.size + 1) :: (us ++ ds)) _ _ (E σ) (hr.make C us [])
    (I2.env0.make C us []) (hb _ (Value.ref (s.heap.objs.size + 1) :: us) I2.kIn hl) r2 hq) fun r s' hq' => ?_))
  cases r with
  | error e => exact hx pins _ _ e s' I2 hq'
  | ok fl =>
    cases fl with
    | ret u =>
      obtain ⟨v, H', I3, rv, ev, q3⟩ := I2.after hq'
      subst ev
      exact ⟨rv, ⟨V.ref (s.heap.objs.size + 1), H', I3, rfl, q3⟩⟩
    | next => exact False.elim hq'
    | brk => exact False.elim hq'
    | cont => exact False.elim hq'
theorem pe_makeS (M : Mk X.K C f) (F : FnOk X.prog X.w X.K X.mg X.base CX k f fd ps sp) (hr : Room (k + 1) X.A) (hg : Gl X x) (hm : X.mg x = some (.ref C)) (hb : Binds X.K fd ps ds) (hd : Vals dvs ds) (hx : ∀ σ, PassesAt CX X σ (E σ))
    (ha : PA X (e :: es) t) (hdb : (x == ("__debug__" : Str)) = false := by decide) (he : starEach (e :: es) X.env = (false, eval e X.env) :: starEach es X.env := by rfl) (hpl : (backTo pos (starEach es X.env)).any (·.1) = false := by rfl) :
    PE X (.Call (.Name x p) (e :: es) [] pos) (tMakeS C sp dvs E t) := by
  refine ⟨fun pins s σ H Q I h => ?_⟩
  refine wpAny_Call_Name_kw (ld_glob I hg hm ?_ hdb)
  refine PySem.W.callWith_K (h₀ := X.base) I.ok.mod.kin M.kp (thn (ha.run pos pins s σ H _ I h) fun us s1 ⟨vs, H1, I1, r, q⟩ => ⟨I1.kIn, ?_⟩) he hpl
  exact run_makeS M F hr hb hd (hx σ) I1 r q
theorem a_makeS {σ : L2.St} {H : Hp} {Q : VK} (h : t σ H fun vs H1 => ∀ x dx, H1 x = none → H1 dx = none → dx ≠ x → sp (.ref x :: (vs ++ dvs)) (upd (upd H1 dx (.own x)) x (.ins C dx [])) (fun v H2 => v = .non ∧ Q (.ref x) H2) (E σ)) : tMakeS C sp dvs E t σ H Q := h
end
end R
namespace R
open PySem PySem.Spec PyProof.Rows L2
/-- what is not reached -/
theorem pe_never {X : Cx} {e : Expr} : PE X e (fun _ _ _ => False) := ⟨fun _ _ _ _ _ _ h => h.elim⟩
theorem pt_never {X : Cx} {e : Expr} : PT X e (fun _ _ _ => False) := ⟨fun _ _ _ _ _ _ h => h.elim⟩
end R

/-! ## values of any kind -/
namespace R
open PySem PySem.Spec PyProof.Rows L2
open PySem.W (Frag)
inductive Odd (K : Frag) (H : Hp) : V → Prop
  | non : Odd K H .non
  | bl (b : Bool) : Odd K H (.bl b)
  | str (z : Str) : Odd K H (.str z)
  | lst {a : Addr} {xs : List V} (h : H a = some (.lst xs)) : Odd K H (.ref a)
  | tup {a : Addr} {xs : List V} (h : H a = some (.tup xs)) : Odd K H (.ref a)
  | dK {a : Addr} {kvs : List (Key × V)} (h : H a = some (.dK kvs)) : Odd K H (.ref a)
theorem Odd.same {K : Frag} {B H : Hp} {v : V} (s : Same B H) (h : Odd K B v) : Odd K H v := by
  cases h with
  | non => exact .non
  | bl b => exact .bl b
  | str z => exact .str z
  | lst h => exact .lst (s _ _ h)
  | tup h => exact .tup (s _ _ h)
  | dK h => exact .dK (s _ _ h)
/-- no int of the stretch -/
def OutR (K : Frag) (H : Hp) (v : V) (lo hi : Int) : Prop := Odd K H v ∨ ∃ i, v = .int i ∧ ¬ (lo ≤ i ∧ i ≤ hi)
theorem OutR.same {K : Frag} {B H : Hp} {v : V} {lo hi : Int} (s : Same B H) (h : OutR K B v lo hi) : OutR K H v lo hi := h.imp (·.same s) id
theorem OutR.int {K : Frag} {H : Hp} {i lo hi : Int} (h : i < lo ∨ hi < i) : OutR K H (.int i) lo hi := .inr ⟨i, rfl, by omega⟩
section
variable {K : Frag} {H : Hp} {v : V} {Q : VK}
theorem a_isiO (h : Odd K H v) (hb : ∀ b, v ≠ .bl b) (q : Q (.bl false) H) : rIsi K [v, .ty "int"] H Q := by
  cases h with
  | non => exact ⟨_, _, .type "NoneType", .type "int", false, rfl, .ty _, .base .non, kit_ty (by decide +kernel), q⟩
  | bl b => exact absurd rfl (hb b)
  | str z => exact ⟨_, _, .type "str", .type "int", false, rfl, .ty _, .base (.str z), kit_ty (by decide +kernel), q⟩
  | lst h => exact ⟨_, _, .type "list", .type "int", false, rfl, .ty _, .base (.lst h), kit_ty (by decide +kernel), q⟩
  | tup h => exact ⟨_, _, .type "tuple", .type "int", false, rfl, .ty _, .base (.tup h), kit_ty (by decide +kernel), q⟩
  | dK h => exact ⟨_, _, .type "dict", .type "int", false, rfl, .ty _, .base (.dK h), kit_ty (by decide +kernel), q⟩
theorem a_isiBI {b : Bool} (q : Q (.bl true) H) : rIsi K [.bl b, .ty "int"] H Q := ⟨_, _, .type "bool", .type "int", true, rfl, .ty _, .base (.bl b), kit_ty (by decide +kernel), q⟩
theorem a_isiBB {b : Bool} (q : Q (.bl true) H) : rIsi K [.bl b, .ty "bool"] H Q := ⟨_, _, .type "bool", .type "bool", true, rfl, .ty _, .base (.bl b), kit_ty (by decide +kernel), q⟩
end
end R
namespace R
open PySem PySem.Spec PyProof.Rows L2
open PySem.W (Frag)
/-- a flat value that is no int of the stretch, as data too -/
structure BadV (K : Frag) (lo hi : Int) (v : V) : Prop where
  out : ∀ H, OutR K H v lo hi
  flat : ∃ d : PyData, d.canLay0 = true ∧ d.depth ≤ 1 ∧ ∀ H, Dp K H v d
section
variable {K : Frag} {lo hi : Int} {v : V} {H : Hp} {Q : VK} {p q : Addr}
theorem BadV.non : BadV K lo hi .non := ⟨fun _ => .inl .non, .none, rfl, Nat.zero_le _, fun _ => .non⟩
theorem BadV.bl {b : Bool} : BadV K lo hi (.bl b) := ⟨fun _ => .inl (.bl b), .bool b, rfl, Nat.zero_le _, fun _ => .bl b⟩
theorem BadV.str {z : Str} (h : (PyData.str z).canLay0 = true) : BadV K lo hi (.str z) := ⟨fun _ => .inl (.str z), .str z, h, Nat.zero_le _, fun _ => .str z⟩
theorem BadV.int {i : Int} (h : i < lo ∨ hi < i) : BadV K lo hi (.int i) := ⟨fun _ => .int h, .int i, rfl, Nat.zero_le _, fun _ => .int i⟩
/-- [v] != [v] -/
theorem a_neOne (hv : ∃ d : PyData, d.canLay0 = true ∧ d.depth ≤ 1 ∧ ∀ H, Dp K H v d) (hp : SqL K H p [v]) (hq : SqL K H q [v]) (h : Q (.bl false) H) : rNeD K (.ref p) (.ref q) H Q := by
  obtain ⟨d, d1, d2, d3⟩ := hv
  refine a_neD (d := .list [d]) (.lst hp (.cons (d3 H) .nil)) (.lst hq (.cons (d3 H) .nil)) ?_ ?_ h
  · show (d.canLay0 && true) = true
    rw [d1]; rfl
  · show max d.depth 0 + 1 ≤ 64
    omega
theorem a_neS1 {z : Str} (h : Q (.bl false) H) : rNe (.str z) (.str z) H Q := ⟨rfl, by rw [decide_eq_true rfl]; exact h⟩
end
end R
namespace R
open PySem PySem.Spec PyProof.Rows L2
open PySem.W (Frag)
def isTy : Value → Bool
  | .type _ => true
  | _ => false
theorem kit_no {K : Frag} {C : Addr} {t : String} (hc : ((PySem.W.clsIn K C).isSome && PySem.W.typeIn K (.ref C) == some (.type "type")) = true) (hm : (PySem.fastBuiltinMro t).map (·.all isTy) = some true) : PySem.W.kitOne K (.type t) (.ref C) = some false := by
  obtain ⟨l, h1, h2⟩ := Option.map_eq_some_iff.mp hm
  have z : l.contains (Value.ref C) = false := by
    cases e : l.contains (Value.ref C) with
    | false => rfl
    | true =>
      have m : Value.ref C ∈ l := by simpa using e
      have y := List.all_eq_true.mp h2 _ m
      cases y
  show (if (Value.type t == Value.ref C) = true then some true else PySem.W.kitCls K (.type t) (.ref C)) = some false
  rw [if_neg (by intro y; rw [beq_iff_eq] at y; cases y)]
  show (if _ = true then (PySem.fastBuiltinMro t).map (·.contains (.ref C)) else none) = some false
  rw [if_pos hc, h1]
  show some (l.contains (Value.ref C)) = some false
  rw [z]
/-- no instance of an own class -/
def NoI (K : Frag) (H : Hp) (v : V) : Prop := Odd K H v ∨ ∃ i, v = .int i
theorem NoI.same {K : Frag} {B H : Hp} {v : V} (s : Same B H) (h : NoI K B v) : NoI K H v := h.imp (·.same s) id
theorem a_isiC {K : Frag} {H : Hp} {v : V} {Q : VK} {C : Addr} (hc : ((PySem.W.clsIn K C).isSome && PySem.W.typeIn K (.ref C) == some (.type "type")) = true) (h : NoI K H v) (q : Q (.bl false) H) : rIsi K [v, .ref C] H Q := by
  rcases h with h | ⟨i, rfl⟩
  · cases h with
    | non => exact ⟨_, _, .type "NoneType", .ref C, false, rfl, .own _, .base .non, kit_no hc (by decide +kernel), q⟩
    | bl b => exact ⟨_, _, .type "bool", .ref C, false, rfl, .own _, .base (.bl b), kit_no hc (by decide +kernel), q⟩
    | str z => exact ⟨_, _, .type "str", .ref C, false, rfl, .own _, .base (.str z), kit_no hc (by decide +kernel), q⟩
    | lst h => exact ⟨_, _, .type "list", .ref C, false, rfl, .own _, .base (.lst h), kit_no hc (by decide +kernel), q⟩
    | tup h => exact ⟨_, _, .type "tuple", .ref C, false, rfl, .own _, .base (.tup h), kit_no hc (by decide +kernel), q⟩
    | dK h => exact ⟨_, _, .type "dict", .ref C, false, rfl, .own _, .base (.dK h), kit_no hc (by decide +kernel), q⟩
  · exact ⟨_, _, .type "int", .ref C, false, rfl, .own _, .base (.int i), kit_no hc (by decide +kernel), q⟩
end R
namespace R
open PySem PySem.Spec PyProof.Rows L2
open PySem.W (Frag)
section
variable {K : Frag} {v : V} {H : Hp} {Q : VK} {p q : Addr}
/-- [v] == [v] -/
theorem a_eqOne (hv : ∃ d : PyData, d.canLay0 = true ∧ d.depth ≤ 1 ∧ ∀ H, Dp K H v d) (hp : SqL K H p [v]) (hq : SqL K H q [v]) (h : Q (.bl true) H) : rEqD K (.ref p) (.ref q) H Q := by
  obtain ⟨d, d1, d2, d3⟩ := hv
  refine a_eqD (d := .list [d]) (.lst hp (.cons (d3 H) .nil)) (.lst hq (.cons (d3 H) .nil)) ?_ ?_ h
  · show (d.canLay0 && true) = true
    rw [d1]; rfl
  · show max d.depth 0 + 1 ≤ 64
    omega
theorem a_eqS1 {z : Str} (h : Q (.bl true) H) : rEq (.str z) (.str z) H Q := ⟨rfl, by rw [decide_eq_true rfl]; exact h⟩
end
end R

/-! ## lists with the very same items; what a call lays goes into the base -/
namespace R
open PySem PySem.Spec PyProof.Rows L2
open PySem.W (Frag)
def SameIt (v : V) : Prop := flatB v = true ∨ ∃ a, v = .ref a
def rNeS (K : Frag) : R2 := fun x y H Q => ∃ a b xs, x = .ref a ∧ y = .ref b ∧ SqL K H a xs ∧ SqL K H b xs ∧ (∀ v ∈ xs, SameIt v) ∧ Q (.bl false) H
def rEqS (K : Frag) : R2 := fun x y H Q => ∃ a b xs, x = .ref a ∧ y = .ref b ∧ SqL K H a xs ∧ SqL K H b xs ∧ (∀ v ∈ xs, SameIt v) ∧ Q (.bl true) H
section
variable {X : Cx}
theorem sameIt_run {P : Program} {w : World} {A : Around} {s : Shared} : ∀ {xs : List V} {us ws : List Value}, (∀ v ∈ xs, SameIt v) → Vals xs us → Vals xs ws → ∀ j (h1 : j < us.length) (h2 : j < ws.length), SeqAt.EqAt A s us[j] ws[j] true := by
  intro xs us ws hf r1
  induction r1 generalizing ws with
  | nil =>
    intro _ j h1
    exact absurd h1 (Nat.not_lt_zero j)
  | cons a1 b1 ih =>
    intro r2 j h1 h2
    cases r2 with
    | cons a2 b2 =>
      cases j with
      | zero =>
        rcases hf _ List.mem_cons_self with f | ⟨a, rfl⟩
        · exact eqAt_same a1 a2 f
        · cases a1
          cases a2
          exact SeqAt.EqAt.same _
      | succ j => exact ih (fun v hv => hf v (List.mem_cons_of_mem _ hv)) b2 j (Nat.lt_of_succ_lt_succ h1) (Nat.lt_of_succ_lt_succ h2)
theorem op_neS (hu : X.A.units + 64 < cLine) : OpR X (compareOp .NotEq) (rNeS X.K) := by
  intro pins s σ H x y v u Q I rx ry h
  obtain ⟨a, b, xs, rfl, rfl, ha, hb, hf, q⟩ := h
  cases (show v = Value.ref a from rx)
  cases (show u = Value.ref b from ry)
  obtain ⟨us, r1, p1, _⟩ := I.list ha
  obtain ⟨ws, r2, p2, _⟩ := I.list hb
  have hsz : us.toArray.size = ws.toArray.size := by rw [List.size_toArray, List.size_toArray, ← r1.length, ← r2.length]
  show wpAny (model X.prog X.w) X.A (richCompare .NotEq (.ref a) (.ref b)) (EP X pins σ Q) X.xe s
  refine SeqAt.RcNeAt.lists (e := fun _ => true) p1.isList p2.isList hsz (by omega) (fun j h1 h2 => ?_) _ _ _ _ ?_
  · have k := sameIt_run (P := X.prog) (w := X.w) (A := X.A.in1) (s := s) hf r1 r2 j (by simpa using h1) (by simpa using h2)
    simpa using k
  · rw [show ((List.range us.toArray.size).all fun _ => true) = true from List.all_eq_true.mpr fun _ _ => rfl]
    exact ⟨.bl false, H, I, rfl, q⟩
theorem op_eqS (hu : X.A.units + 64 < cLine) : OpR X (compareOp .Eq) (rEqS X.K) := by
  intro pins s σ H x y v u Q I rx ry h
  obtain ⟨a, b, xs, rfl, rfl, ha, hb, hf, q⟩ := h
  cases (show v = Value.ref a from rx)
  cases (show u = Value.ref b from ry)
  obtain ⟨us, r1, p1, _⟩ := I.list ha
  obtain ⟨ws, r2, p2, _⟩ := I.list hb
  have hsz : us.toArray.size = ws.toArray.size := by rw [List.size_toArray, List.size_toArray, ← r1.length, ← r2.length]
  show wpAny (model X.prog X.w) X.A (richCompare .Eq (.ref a) (.ref b)) (EP X pins σ Q) X.xe s
  refine SeqAt.rcP_lists (e := fun _ => true) p1.isList p2.isList hsz (by omega) (fun j h1 h2 => ?_) _ _ ?_
  · have k := sameIt_run (P := X.prog) (w := X.w) (A := X.A.in1) (s := s) hf r1 r2 j (by simpa using h1) (by simpa using h2)
    exact (by simpa using k : SeqAt.EqAt X.A.in1 s us.toArray[j] ws.toArray[j] true).eqP
  · rw [show ((List.range us.toArray.size).all fun _ => true) = true from List.all_eq_true.mpr fun _ _ => rfl]
    exact ⟨.bl true, H, I, rfl, q⟩
end
section
variable {K : Frag} {v : V} {H : Hp} {Q : VK} {p q : Addr}
theorem a_neS1' (hv : SameIt v) (hp : SqL K H p [v]) (hq : SqL K H q [v]) (h : Q (.bl false) H) : rNeS K (.ref p) (.ref q) H Q := ⟨p, q, [v], rfl, rfl, hp, hq, fun x hx => by rw [List.mem_singleton.mp hx]; exact hv, h⟩
theorem a_eqS1' (hv : SameIt v) (hp : SqL K H p [v]) (hq : SqL K H q [v]) (h : Q (.bl true) H) : rEqS K (.ref p) (.ref q) H Q := ⟨p, q, [v], rfl, rfl, hp, hq, fun x hx => by rw [List.mem_singleton.mp hx]; exact hv, h⟩
theorem OutR.sameIt {lo hi : Int} (h : OutR K H v lo hi) : SameIt v := by
  rcases h with h | ⟨i, rfl, _⟩
  · cases h with
    | non => exact .inl rfl
    | bl b => exact .inl rfl
    | str z => exact .inl rfl
    | lst h => exact .inr ⟨_, rfl⟩
    | tup h => exact .inr ⟨_, rfl⟩
    | dK h => exact .inr ⟨_, rfl⟩
  · exact .inl rfl
theorem BadV.sameIt {lo hi : Int} (h : BadV K lo hi v) : SameIt v := (h.out (fun _ => none)).sameIt
end
/-- what was laid by a call that changed an owned thing alone goes into the base -/
theorem Own.base {B H H' : Hp} {Lw : List (Addr × HO)} {row : Addr} {o o' : HO} (O : Own B Lw H) (i : Nat) (hi : Lw[i]? = some (row, o)) (k : ∀ b v, b ≠ row → H b = some v → H' b = some v) (hr : H' row = some o') :
    ∃ B', Same B B' ∧ Own B' (Lw.set i (row, o')) H' ∧ ∀ a u, H a = none → H' a = some u → B' a = some u := by
  have hmem : (row, o) ∈ Lw := List.mem_of_getElem? hi
  refine ⟨fun a => if a ∈ Lw.map (·.1) then none else H' a, fun a u e => ?_, ⟨fun a u e => ?_, fun q hq => ?_, fun q hq => ?_, ?_⟩, fun a u h1 h2 => ?_⟩
  · have n : a ∉ Lw.map (·.1) := fun z => by
      obtain ⟨q, hq, rfl⟩ := List.mem_map.mp z
      rw [O.no q hq] at e; cases e
    show (if a ∈ Lw.map (·.1) then none else H' a) = some u
    rw [if_neg n]
    exact k a u (fun z => n (List.mem_map.mpr ⟨_, hmem, z.symm⟩)) (O.st _ _ e)
  · have e : (if a ∈ Lw.map (·.1) then none else H' a) = some u := e
    split at e
    · cases e
    · exact e
  · rcases mem_set1 O.nd hi hq with rfl | ⟨h1, h2⟩
    · exact hr
    · exact k _ _ h2 (O.ow q h1)
  · have m : q.1 ∈ Lw.map (·.1) := by
      rw [← set_map1 hi (o' := o')]
      exact List.mem_map.mpr ⟨q, hq, rfl⟩
    show (if q.1 ∈ Lw.map (·.1) then none else H' q.1) = none
    rw [if_pos m]
  · rw [set_map1 hi]; exact O.nd
  · have n : a ∉ Lw.map (·.1) := fun z => by
      obtain ⟨q, hq, rfl⟩ := List.mem_map.mp z
      rw [O.ow q hq] at h1; cases h1
    show (if a ∈ Lw.map (·.1) then none else H' a) = some u
    rw [if_neg n]
    exact h2
end R
namespace R
open PySem PySem.Spec PyProof.Rows L2
open PySem.W (Frag)
section
variable {K : Frag} {B H : Hp} {Lw : List (Addr × HO)} {a p q : Addr} {xs : List V} {lo hi : Option Int} {Q : VK} {w : V}
theorem a_neSL (hv : ∀ v ∈ xs, SameIt v) (hp : SqL K H p xs) (hq : SqL K H q xs) (h : Q (.bl false) H) : rNeS K (.ref p) (.ref q) H Q := ⟨p, q, xs, rfl, rfl, hp, hq, hv, h⟩
theorem cutV_to (xs : List V) (k : Nat) : cutV xs none (some (k : Int)) = xs.take k := by
  unfold cutV
  rw [HT.sIx_none, HT.sIx_nat, List.drop_zero, Nat.sub_zero]
  by_cases c : k ≤ xs.length
  · rw [Nat.min_eq_left c]
  · rw [Nat.min_eq_right (by omega), List.take_of_length_le (by omega), List.take_of_length_le (by omega)]
theorem cutV_from (xs : List V) (k : Nat) : cutV xs (some (k : Int)) none = xs.drop k := by
  unfold cutV
  rw [HT.sIx_none, HT.sIx_nat]
  by_cases c : k ≤ xs.length
  · rw [Nat.min_eq_left c]
    exact List.take_of_length_le (by rw [List.length_drop]; omega)
  · rw [Nat.min_eq_right (by omega), List.drop_of_length_le (by omega), List.drop_of_length_le (by omega), List.take_nil]
/-- a tuple's slice; the outcome stands in the base -/
theorem a_slA (O : Own B Lw H) (ha : B a = some (.tup xs)) (c : ∀ r B' H', Same B B' → Own B' Lw H' → B' r = some (.tup (cutV xs lo hi)) → Q (.ref r) H') : rSlA K (.ref a) lo hi H Q := by
  refine ⟨a, xs, rfl, SqT.of (O.st _ _ ha), fun e => ?_, fun _ p hp => ?_⟩
  · have z : cutV xs lo hi = xs := by
      unfold cutV
      rw [e.1, e.2, List.drop_zero, Nat.sub_zero, List.take_length]
    exact c a B H (Same.refl B) O (by rw [z]; exact ha)
  · have O2 := Own.new (o := .tup (cutV xs lo hi)) O hp
    exact c p _ _ O2.fixS O2.fix upd_same
end
/-- w stands at place n, good ones ahead of it -/
def WrongAt (xs : List V) (n : Nat) (w : V) (G : V → Prop) : Prop := xs[n]? = some w ∧ ∀ (i : Nat) (x : V), i < n → xs[i]? = some x → G x
theorem wrongAt_put {ms : List Int} {n : Nat} {w : V} {G : V → Prop} {tl : List V} (hn : n ≤ ms.length) (hg : ∀ m ∈ ms, G (.int m)) : WrongAt ((ms.map V.int).take n ++ [w] ++ tl) n w G := by
  have l : ((ms.map V.int).take n).length = n := by rw [List.length_take, List.length_map]; omega
  refine ⟨?_, fun i x hi hx => ?_⟩
  · rw [List.append_assoc, List.getElem?_append_right (by omega), l, Nat.sub_self]; rfl
  · rw [List.append_assoc, List.getElem?_append_left (by omega), List.getElem?_take, if_pos hi, List.getElem?_map] at hx
    obtain ⟨m, hm, rfl⟩ := Option.map_eq_some_iff.mp hx
    exact hg m (List.mem_of_getElem? hm)
/-- not a tuple -/
inductive NotTup (K : Frag) (H : Hp) : V → Prop
  | non : NotTup K H .non
  | bl (b : Bool) : NotTup K H (.bl b)
  | str (z : Str) : NotTup K H (.str z)
  | int (i : Int) : NotTup K H (.int i)
  | lst {a : Addr} {xs : List V} (h : H a = some (.lst xs)) : NotTup K H (.ref a)
  | dK {a : Addr} {kvs : List (Key × V)} (h : H a = some (.dK kvs)) : NotTup K H (.ref a)
theorem NotTup.same {K : Frag} {B H : Hp} {v : V} (s : Same B H) (h : NotTup K B v) : NotTup K H v := by
  cases h with
  | non => exact .non
  | bl b => exact .bl b
  | str z => exact .str z
  | int i => exact .int i
  | lst h => exact .lst (s _ _ h)
  | dK h => exact .dK (s _ _ h)
section
variable {K : Frag} {H : Hp} {v : V} {Q : VK} {p : Addr} {xs : List V}
theorem a_isiNT (h : NotTup K H v) (q : Q (.bl false) H) : rIsi K [v, .ty "tuple"] H Q := by
  cases h with
  | non => exact ⟨_, _, .type "NoneType", .type "tuple", false, rfl, .ty _, .base .non, kit_ty (by decide +kernel), q⟩
  | bl b => exact ⟨_, _, .type "bool", .type "tuple", false, rfl, .ty _, .base (.bl b), kit_ty (by decide +kernel), q⟩
  | str z => exact ⟨_, _, .type "str", .type "tuple", false, rfl, .ty _, .base (.str z), kit_ty (by decide +kernel), q⟩
  | int i => exact ⟨_, _, .type "int", .type "tuple", false, rfl, .ty _, .base (.int i), kit_ty (by decide +kernel), q⟩
  | lst h => exact ⟨_, _, .type "list", .type "tuple", false, rfl, .ty _, .base (.lst h), kit_ty (by decide +kernel), q⟩
  | dK h => exact ⟨_, _, .type "dict", .type "tuple", false, rfl, .ty _, .base (.dK h), kit_ty (by decide +kernel), q⟩
theorem a_isiT1 (h : H p = some (.tup xs)) (q : Q (.bl true) H) : rIsi K [.ref p, .ty "tuple"] H Q := ⟨_, _, .type "tuple", .type "tuple", true, rfl, .ty _, .base (.tup h), kit_ty (by decide +kernel), q⟩
end
/-- no tuple of so many things -/
def NoTup (K : Frag) (H : Hp) (v : V) (lo hi : Nat) : Prop := NotTup K H v ∨ ∃ p xs, v = .ref p ∧ H p = some (.tup xs) ∧ ¬ (lo ≤ xs.length ∧ xs.length ≤ hi)
theorem NoTup.same {K : Frag} {B H : Hp} {v : V} {lo hi : Nat} (s : Same B H) (h : NoTup K B v lo hi) : NoTup K H v lo hi := by
  rcases h with h | ⟨p, xs, e, h, n⟩
  · exact .inl (h.same s)
  · exact .inr ⟨p, xs, e, s _ _ h, n⟩
end R

/-! ## rows of things: lists or tuples of any things -/
namespace R
open PySem PySem.Spec PyProof.Rows L2
open PySem.W (Frag)
/-- no list, no tuple -/
inductive NotSeq (K : Frag) (H : Hp) : V → Prop
  | non : NotSeq K H .non
  | bl (b : Bool) : NotSeq K H (.bl b)
  | str (z : Str) : NotSeq K H (.str z)
  | int (i : Int) : NotSeq K H (.int i)
  | dK {a : Addr} {kvs : List (Key × V)} (h : H a = some (.dK kvs)) : NotSeq K H (.ref a)
  | ins {a C dx : Addr} {fs : List (Str × V)} (h : H a = some (.ins C dx fs)) (I : C8.InsC K C) (hc : ((PySem.W.clsIn K C).isSome && PySem.W.typeIn K (.ref C) == some (.type "type")) = true) (h1 : PySem.W.subIn K (.ref C) (.type "list") = some false) (h2 : PySem.W.subIn K (.ref C) (.type "tuple") = some false) : NotSeq K H (.ref a)
theorem NotSeq.same {K : Frag} {B H : Hp} {v : V} (s : Same B H) (h : NotSeq K B v) : NotSeq K H v := by
  cases h with
  | non => exact .non
  | bl b => exact .bl b
  | str z => exact .str z
  | int i => exact .int i
  | dK h => exact .dK (s _ _ h)
  | ins h I hc h1 h2 => exact .ins (s _ _ h) I hc h1 h2
theorem kit_sub {K : Frag} {C : Addr} {t : String} (h : PySem.W.subIn K (.ref C) (.type t) = some false) (hm : PySem.W.kitMeta t = true := by decide +kernel) : PySem.W.kitOne K (.ref C) (.type t) = some false := by
  show (if (Value.ref C == Value.type t) = true then some true else PySem.W.kitCls K (.ref C) (.type t)) = some false
  rw [if_neg (by intro y; rw [beq_iff_eq] at y; cases y)]
  show (if PySem.W.kitMeta t = true then PySem.W.subIn K (.ref C) (.type t) else none) = some false
  rw [if_pos hm]; exact h
section
variable {K : Frag} {H : Hp} {v : V} {Q : VK} {tp : Addr}
theorem a_isiN2 (h : NotSeq K H v) (ht : H tp = some (.tup [.ty "list", .ty "tuple"])) (q : Q (.bl false) H) : rIsiT K [v, .ref tp] H Q := by
  cases h with
  | non => exact ⟨_, tp, _, .type "NoneType", [.type "list", .type "tuple"], false, rfl, ht, .cons (.ty _) (.cons (.ty _) .nil), .base .non, kitAny_cons (b := false) (kit_ty (by decide +kernel)) (fun _ => kitAny_cons (b := false) (kit_ty (by decide +kernel)) (fun _ => rfl) (fun z => by cases z)) (fun z => by cases z), q⟩
  | bl b => exact ⟨_, tp, _, .type "bool", [.type "list", .type "tuple"], false, rfl, ht, .cons (.ty _) (.cons (.ty _) .nil), .base (.bl b), kitAny_cons (b := false) (kit_ty (by decide +kernel)) (fun _ => kitAny_cons (b := false) (kit_ty (by decide +kernel)) (fun _ => rfl) (fun z => by cases z)) (fun z => by cases z), q⟩
  | str z => exact ⟨_, tp, _, .type "str", [.type "list", .type "tuple"], false, rfl, ht, .cons (.ty _) (.cons (.ty _) .nil), .base (.str z), kitAny_cons (b := false) (kit_ty (by decide +kernel)) (fun _ => kitAny_cons (b := false) (kit_ty (by decide +kernel)) (fun _ => rfl) (fun z => by cases z)) (fun z => by cases z), q⟩
  | int i => exact ⟨_, tp, _, .type "int", [.type "list", .type "tuple"], false, rfl, ht, .cons (.ty _) (.cons (.ty _) .nil), .base (.int i), kitAny_cons (b := false) (kit_ty (by decide +kernel)) (fun _ => kitAny_cons (b := false) (kit_ty (by decide +kernel)) (fun _ => rfl) (fun z => by cases z)) (fun z => by cases z), q⟩
  | dK h => exact ⟨_, tp, _, .type "dict", [.type "list", .type "tuple"], false, rfl, ht, .cons (.ty _) (.cons (.ty _) .nil), .base (.dK h), kitAny_cons (b := false) (kit_ty (by decide +kernel)) (fun _ => kitAny_cons (b := false) (kit_ty (by decide +kernel)) (fun _ => rfl) (fun z => by cases z)) (fun z => by cases z), q⟩
  | @ins a C dx fs h I hc h1 h2 => exact ⟨_, tp, _, .ref C, [.type "list", .type "tuple"], false, rfl, ht, .cons (.ty _) (.cons (.ty _) .nil), .base (.ins h I.cl I.ha I.hn I.htk I.hm), kitAny_cons (b := false) (kit_sub h1) (fun _ => kitAny_cons (b := false) (kit_sub h2) (fun _ => rfl) (fun z => by cases z)) (fun z => by cases z), q⟩
end
/-- no row of lo to hi things -/
def NoRow (K : Frag) (H : Hp) (v : V) (lo hi : Nat) : Prop := NotSeq K H v ∨ ∃ p xs, v = .ref p ∧ EAt H p xs ∧ ¬ (lo ≤ xs.length ∧ xs.length ≤ hi)
theorem NoRow.same {K : Frag} {B H : Hp} {v : V} {lo hi : Nat} (s : Same B H) (h : NoRow K B v lo hi) : NoRow K H v lo hi := by
  rcases h with h | ⟨p, xs, e, h, n⟩
  · exact .inl (h.same s)
  · exact .inr ⟨p, xs, e, h.up s, n⟩
/-- an int of the stretch -/
def frB (lo hi : Int) : V → Bool
  | .int i => decide (lo ≤ i) && decide (i ≤ hi)
  | _ => false
theorem bl_snoc {f : V → Bool} {ys : List V} {i : Nat} {y : V} (h : ys[i]? = some y) : (ys.take (i + 1)).map f = (ys.take i).map f ++ [f y] := by
  rw [List.take_add_one, h, List.map_append]; rfl
theorem WrongAt.mono {xs : List V} {n : Nat} {w : V} {G G' : V → Prop} (h : WrongAt xs n w G) (g : ∀ x, G x → G' x) : WrongAt xs n w G' := ⟨h.1, fun i x hi hx => g x (h.2 i x hi hx)⟩
theorem wrongAt_row {xs tl : List V} {n : Nat} {w : V} {G : V → Prop} (hn : n ≤ xs.length) (hg : ∀ x ∈ xs, G x) : WrongAt (xs.take n ++ [w] ++ tl) n w G := by
  have l : (xs.take n).length = n := by rw [List.length_take]; omega
  refine ⟨?_, fun i x hi hx => ?_⟩
  · rw [List.append_assoc, List.getElem?_append_right (by omega), l, Nat.sub_self]; rfl
  · rw [List.append_assoc, List.getElem?_append_left (by omega), List.getElem?_take, if_pos hi] at hx
    exact hg x (List.mem_of_getElem? hx)
end R
namespace R
open PySem PySem.Spec PyProof.Rows L2
open PySem.W (Frag)
section
variable {K : Frag} {B H : Hp} {Lw : List (Addr × HO)} {a b : Addr} {xs ys : List V} {lo hi : Option Int} {Q : VK} {k : Int}
theorem a_slLV (O : Own B Lw H) (hs : SqL K H a xs) (q : ∀ p H', H p = none → Own B ((p, .lst (cutV xs lo hi)) :: Lw) H' → Q (.ref p) H') : rSlL K (.ref a) lo hi H Q :=
  ⟨a, xs, rfl, hs, fun p hp => q p _ hp (O.new hp)⟩
theorem a_catL (O : Own B Lw H) (ha : H a = some (.lst xs)) (hb : H b = some (.lst ys)) (hz : xs.length + ys.length ≤ 1000000) (q : ∀ p H', H p = none → Own B ((p, .lst (xs ++ ys)) :: Lw) H' → Q (.ref p) H') : rCat (.ref a) (.ref b) H Q :=
  ⟨a, b, xs, ys, rfl, rfl, ha, hb, Nat.le_trans hz (by decide), fun p hp => q p _ hp (O.new hp)⟩
theorem a_repL (O : Own B Lw H) (ha : H a = some (.lst xs)) (hk : 0 ≤ k ∧ k ≤ 1000) (hz : xs.length ≤ 1000) (q : ∀ p H', H p = none → Own B ((p, .lst (List.replicate k.toNat xs).flatten) :: Lw) H' → Q (.ref p) H') : rRep (.ref a) (.int k) H Q := by
  refine ⟨a, k, xs, rfl, rfl, ha, by omega, by omega, ?_, fun p hp => q p _ hp (O.new hp)⟩
  have h1 : xs.length * k.toNat ≤ 1000 * 1000 := Nat.mul_le_mul hz (by omega)
  exact Nat.le_trans h1 (by decide)
end
end R
namespace R
open PySem PySem.Spec PyProof.Rows L2
open PySem.W (Frag)
theorem Own.fixAll {H : Hp} {row : Addr} {o : HO} : ∀ {Lw : List (Addr × HO)} {B : Hp}, Own B (Lw ++ [(row, o)]) H → ∃ B', Same B B' ∧ Own B' [(row, o)] H ∧ ∀ q ∈ Lw, B' q.1 = some q.2
  | [], B, O => ⟨B, Same.refl B, O, fun _ h => by simp at h⟩
  | (p, u) :: Lw, B, O => by
    have O1 : Own B ((p, u) :: (Lw ++ [(row, o)])) H := O
    obtain ⟨B', s, O', h⟩ := Own.fixAll (O1.fix)
    refine ⟨B', O1.fixS.trans s, O', fun q hq => ?_⟩
    rcases List.mem_cons.mp hq with rfl | hq
    · exact s _ _ upd_same
    · exact h q hq
theorem Own.sameDel {B H : Hp} {Lw : List (Addr × HO)} {row : Addr} {o : HO} (O : Own B Lw H) (i : Nat) (h : Lw[i]? = some (row, o)) : Same B (del1 H row) := fun a v e => by
  have n := O.gone i h
  rw [del1_ne (fun z => by rw [z, n] at e; cases e)]
  exact O.st _ _ e
end R

/-! ## x == y by an own __eq__, properties -/
namespace R
open PySem PySem.Spec PyProof.Rows L2
open PySem.W (Frag)
/-- what may stand on the right of == beside an instance of the class at C -/
def EqTy (K : Frag) (H : Hp) (C : Addr) (y : V) : Prop := ∃ b, y = .ref b ∧ ((∃ dx fs, H b = some (.ins C dx fs)) ∨ ∃ xs, H b = some (.tup xs))
def rOwnE (K : Frag) (C : Addr) (sp : Sp) : R2 := fun x y H Q => ∃ a dx fs, x = .ref a ∧ H a = some (.ins C dx fs) ∧ EqTy K H C y ∧ sp [x, y] H (fun v H' => (∃ b, v = .bl b) ∧ Q v H') (fun _ _ _ => False)
theorem sub_no {K : Frag} {C : Addr} {t : String} (hm : (PySem.fastBuiltinMro t).map (·.all isTy) = some true) : PySem.W.notFirst K C (.type t) = true := by
  obtain ⟨l, h1, h2⟩ := Option.map_eq_some_iff.mp hm
  have z : l.contains (Value.ref C) = false := by
    cases e : l.contains (Value.ref C) with
    | false => rfl
    | true =>
      have m : Value.ref C ∈ l := by simpa using e
      have y := List.all_eq_true.mp h2 _ m
      cases y
  have e : PySem.W.subIn K (.type t) (.ref C) = some false := by
    show (PySem.fastBuiltinMro t).map (·.contains (.ref C)) = some false
    rw [h1]
    show some (l.contains (Value.ref C)) = some false
    rw [z]
  unfold PySem.W.notFirst
  rw [e]
  simp
section
variable {X : Cx} {n : Nat} {C f : Addr} {fd : FuncData} {ps : List Str} {sp : Sp}
theorem op_eqOwn (F : FnOk X.prog X.w X.K X.mg X.base CX0 n f fd ps sp) (hr : Room n X.A) (hs : PySem.W.findIn X.K (.ref C) "__eq__" = some (some (.ref f))) (hf : PySem.W.isFn X.K (.ref f) = true) (hb : Binds X.K fd ps []) : OpR X (compareOp .Eq) (rOwnE X.K C sp) := by
  intro pins s σ H x y u v Q I rx ry h
  obtain ⟨a, dx, fs, rfl, ha, ⟨b, rfl, hy⟩, hsp⟩ := h
  cases rx
  cases ry
  show wpAny (model X.prog X.w) X.A (richCompare .Eq (.ref a) (.ref b)) (EP X pins σ Q) X.xe s
  obtain ⟨mA, J, _⟩ := ins_get I.hok ha
  obtain ⟨od, J, _⟩ := J.look
  obtain ⟨m, hF⟩ := I.fr
  have fin : wpAny (model X.prog X.w) X.A (call (.ref f) [.ref a, .ref b]) (PySem.W.CmpBack (EP X pins σ Q)) X.xe s := by
    have hl := F.len _ _ _ _ hsp
    have r2 : Vals [V.ref a, V.ref b] [Value.ref a, Value.ref b] := .cons rfl (.cons rfl .nil)
    refine wpAny_call (codeAny_mono (F.run X.A X.stack s H ⟨[.ref a, .ref b], []⟩ [.ref a, .ref b] [.ref a, .ref b] _ _ hr I.env0 (by
      have := hb s [.ref a, .ref b] I.kIn (by simpa using hl)
      simpa using this) r2 hsp) fun r s' hq => ?_)
    cases r with
    | error e => exact hq.elim
    | ok fl =>
      cases fl with
      | ret w =>
        obtain ⟨z, H', I', rz, ⟨bb, ez⟩, q⟩ := I.after hq
        subst ez
        cases rz
        exact ⟨.bl bb, H', I', rfl, q⟩
      | next => exact False.elim hq
      | brk => exact False.elim hq
      | cont => exact False.elim hq
  rcases hy with ⟨dy, gs, hy⟩ | ⟨xs, hy⟩
  · obtain ⟨mB, J', _⟩ := ins_get I.hok hy
    obtain ⟨od', J', _⟩ := J'.look
    exact PySem.W.cmp_K (op := .Eq) (tb := .ref C) hr.units0 hF I.ok.mod.kin J J'.type (by simp [PySem.W.notFirst]) hs hf fin
  · obtain ⟨_, _, _, o, h1, h2, _⟩ := (show ObjOk X.prog X.w H s.heap b (.tup xs) from I.hok b _ hy)
    exact PySem.W.cmp_K (op := .Eq) (tb := .type "tuple") hr.units0 hF I.ok.mod.kin J (fun A Q E s k q => wpAny_typeOf_ref (k _ _ h1) (by rw [h2]; exact q)) (sub_no (by decide +kernel)) hs hf fin
end
section
variable {K : Frag} {C : Addr} {sp : Sp} {dvs : List V} {E : XK} {ta : TE} {σ : L2.St} {H : Hp} {Q : VK}
theorem a_prop (h : ta σ H fun x H1 => ∃ a dx fs, x = .ref a ∧ H1 a = some (.ins C dx fs) ∧ sp (.ref a :: dvs) H1 Q E) : tProp C sp dvs E ta σ H Q := h
end
end R

/-! ## == of tuples of ints, both ways; the last item -/
namespace R
open PySem PySem.Spec PyProof.Rows L2
open PySem.W (Frag)
theorem eqvAll_ints : ∀ a b : List Int, PyData.eqvAll (a.map .int) (b.map .int) = decide (a = b)
  | [], [] => rfl
  | [], y :: b => rfl
  | x :: a, [] => rfl
  | x :: a, y :: b => by
    show ((x == y) && PyData.eqvAll (a.map .int) (b.map .int)) = _
    rw [eqvAll_ints a b]
    by_cases h1 : x = y
    · by_cases h2 : a = b
      · rw [h1, h2]; simp
      · rw [decide_eq_false h2, decide_eq_false (fun z => h2 (List.cons.inj z).2), Bool.and_false]
    · rw [decide_eq_false (fun z => h1 (List.cons.inj z).1), beq_eq_false_iff_ne.mpr h1, Bool.false_and]
theorem eqv_pyT (a b : List Int) : PyData.eqv (pyT a) (pyT b) = decide (a = b) := eqvAll_ints a b
section
variable {K : Frag} {H : Hp} {p q : Addr} {f g : List Int} {Q : VK}
theorem a_eqTT (hx : SqT K H p (f.map V.int)) (hy : SqT K H q (g.map V.int)) (h : Q (.bl (decide (f = g))) H) : rEqD K (.ref p) (.ref q) H Q :=
  ⟨pyT f, pyT g, dp_pyT hx, dp_pyT hy, shaped_of (can_pyT f) (Nat.le_trans (dep_pyT f) (by decide)), shaped_of (can_pyT g) (Nat.le_trans (dep_pyT g) (by decide)), by rw [eqv_pyT]; exact h⟩
end
theorem atI_neg1 {α : Type} (xs : List α) (x : α) : atI (xs ++ [x]) (-1) = some x := by
  unfold atI ixN
  rw [if_neg (by decide), if_pos (by rw [List.length_append, List.length_singleton]; omega)]
  show (xs ++ [x])[((-1 : Int) + ((xs ++ [x]).length : Int)).toNat]? = some x
  rw [List.length_append, List.length_singleton, show ((-1 : Int) + ((xs.length + 1 : Nat) : Int)).toNat = xs.length by omega, List.getElem?_append_right (Nat.le_refl _), Nat.sub_self]
  rfl
theorem cutV_init (xs : List V) (x : V) : cutV (xs ++ [x]) none (some (-1)) = xs := by
  unfold cutV
  rw [HT.sIx_none]
  have e : HT.sIx (xs ++ [x]).length (xs ++ [x]).length (some (-1)) = xs.length := by
    show (if (-1 : Int) < 0 then ((-1 : Int) + ((xs ++ [x]).length : Int)).toNat else min (-1 : Int).toNat (xs ++ [x]).length) = xs.length
    rw [if_pos (by decide), List.length_append, List.length_singleton]
    omega
  rw [e, List.drop_zero, Nat.sub_zero, List.take_append_of_le_length (Nat.le_refl _), List.take_length]
end R

/-! ## len(x) by an own __len__ -/
namespace R
open PySem PySem.Spec PyProof.Rows L2
open PySem.W (Frag)
def rLenO (C : Addr) (sp : Sp) : List V → Hp → VK → Prop := fun xs H Q => ∃ a dx fs, xs = [.ref a] ∧ H a = some (.ins C dx fs) ∧ sp [.ref a] H (fun v H' => ∃ k : Nat, v = .int k ∧ k ≤ 1000000 ∧ Q (.int k) H') (fun _ _ _ => False)
section
variable {X : Cx} {n : Nat} {C f : Addr} {fd : FuncData} {ps : List Str} {sp : Sp}
theorem call_lenO (F : FnOk X.prog X.w X.K X.mg X.base CX0 n f fd ps sp) (hr : Room (n + 1) X.A) (hs : PySem.W.findIn X.K (.ref C) "__len__" = some (some (.ref f))) (hf : PySem.W.typeIn X.K (.ref f) = some (.type "function")) (hb : Binds X.K fd ps []) : CallR X (.builtin "len") (rLenO C sp) := by
  intro pins s σ H xs us Q I r h
  obtain ⟨a, dx, fs, rfl, ha, hsp⟩ := h
  obtain ⟨u, rfl, rx⟩ := vals1 r
  obtain rfl : u = .ref a := rx
  obtain ⟨mA, J, _⟩ := ins_get I.hok ha
  obtain ⟨od, J, _⟩ := J.look
  refine Calls.call_function_entry kind_len plain_len entry_len (args_len1 _) ?_
  unfold Builtin.«len»
  refine wpAny_bind (m := oneArg "len" _) (wpAny_pure ?_)
  refine wpAny_bind (m := callSpecial? (.ref a) (Str.ofString "__len__")) (PySem.W.special_fn (args := []) I.kIn J hs hf ?_)
  have hl := F.len _ _ _ _ hsp
  have r2 : Vals [V.ref a] [Value.ref a] := .cons rfl .nil
  refine wpAny_call (codeAny_mono (F.run X.A.in1 X.stack s H ⟨[.ref a], []⟩ [.ref a] [.ref a] _ _ hr.in1 I.env0.in1 (by
    have := hb s [.ref a] I.kIn (by simpa using hl)
    simpa using this) r2 hsp) fun r s' hq => ?_)
  cases r with
  | error e => exact hq.elim
  | ok fl =>
    cases fl with
    | ret w =>
      obtain ⟨z, H', I', rz, ⟨k, ez, hk, q⟩⟩ := I.after hq
      subst ez
      obtain ⟨tz, rfl⟩ := rz
      show wpAny _ _ _ _ _ s'
      refine wpAny_bind (wpAny_holding (wpAny_pure ?_))
      refine wpAny_bind (wpAny_letGo ?_)
      show wpAny _ _ (if ((k : Nat) : Int) < 0 then _ else _) _ _ _
      rw [if_neg (by omega)]
      show wpAny _ _ (if ((k : Nat) : Int) ≥ 2 ^ 63 then _ else _) _ _ _
      rw [if_neg (by omega)]
      exact wpAny_bind (wpAny_mkInt (wpAny_pure ⟨_, rfl, .int k, H', I'.tok _, ⟨_, rfl⟩, q⟩))
    | next => exact False.elim hq
    | brk => exact False.elim hq
    | cont => exact False.elim hq
end
end R
namespace R
open PySem PySem.Spec PyProof.Rows L2 SeqAt
open PySem.W (Frag)
/-- t == (), a tuple of anything -/
def rEqT0 : R2 := fun x y H Q => ∃ (a b : Addr) (xs : List V), x = .ref a ∧ y = .ref b ∧ H a = some (.tup xs) ∧ H b = some (.tup []) ∧ Q (.bl xs.isEmpty) H
theorem op_eqT0 {X : Cx} (hu : X.A.units + 64 < cLine) : OpR X (compareOp .Eq) rEqT0 := by
  intro pins s σ H x y v u Q I rx ry h
  obtain ⟨a, b, xs, rfl, rfl, ha, hb, q⟩ := h
  cases (show v = Value.ref a from rx)
  cases (show u = Value.ref b from ry)
  obtain ⟨_, its, r, o, h1, h2, n, h3⟩ := (show ObjOk X.prog X.w H s.heap a (.tup xs) from I.hok a _ ha)
  obtain ⟨_, its', r', o', h1', h2', n', h3'⟩ := (show ObjOk X.prog X.w H s.heap b (.tup []) from I.hok b _ hb)
  cases r'
  have t1 : s.heap.IsTuple a its.toArray := ⟨_, h1, h2, _, h3⟩
  have t2 : s.heap.IsTuple b #[] := ⟨_, h1', h2', _, h3'⟩
  have e := RcAt.tuples (e := fun _ => true) t1 t2 (show X.A.units < cLine by omega) (fun j h1 h2 => absurd h2 (Nat.not_lt_zero _))
  have hl : xs.length = its.length := r.length
  rw [show ((List.range (min its.toArray.size (#[] : Array Value).size)).all (fun _ => true) && its.toArray.size == (#[] : Array Value).size) = xs.isEmpty from by
    rw [show ((List.range (min its.toArray.size (#[] : Array Value).size)).all (fun _ => true)) = true from List.all_eq_true.mpr fun _ _ => rfl, Bool.true_and, List.size_toArray, ← hl]
    cases xs <;> rfl] at e
  exact e X.prog X.w X.xe _ ⟨.bl xs.isEmpty, H, I, rfl, q⟩
end R

/-! ## lists of own instances: == asks their own __eq__ -/
namespace R
open PySem PySem.Spec PyProof.Rows L2 SeqAt
open AutoSeq1 (wpAny_loadPart')
open MeetsSeq MeetsSeq2 MeetsSeq3 SeqRoads2
section
variable {prog : Program} {w : World}
def LstAt (s : Shared) (l : Addr) (its : Array Value) : Prop := ∃ n dd sl, s.heap.get? l = some { cls := .type "list", dict := dd, data := .seq its n, slots := sl }
/-- the turns of ==, where an item's own == may change the state within St -/
theorem eq_turns {A0 : Around} {St : Shared → Prop} {l b : Addr} {xs ys : Array Value} (hl : ∀ s, St s → LstAt s l xs) (hb : ∀ s, St s → LstAt s b ys) (hsz : xs.size = ys.size)
    (he : ∀ s, St s → ∀ (j : Nat) (h1 : j < xs.size) (h2 : j < ys.size) (E : Value → Shared → Prop) (Q : Bool → Shared → Prop), (∀ s', St s' → Q true s') → wpAny (model prog w) A0.in1 (eqBool xs[j] ys[j]) Q E s) (k : Nat) :
    ∀ i : Nat, xs.size - i = k → MeetsIn prog w (Builtin.«list.__eq__.loop» ⟨[.ref l, .ref b, rawInt i, rawInt 2], []⟩) (fun A R s => A = A0 ∧ St s ∧ ∀ s', St s' → R (.ok (.ret (.bool true))) s') := by
  induction k with
  | zero =>
    rintro i hk A R s ⟨rfl, st, q⟩
    obtain ⟨n1, d1, s1, g1⟩ := hl s st
    obtain ⟨n2, d2, s2, g2⟩ := hb s st
    have fin := q s st
    obtain ⟨hp, g, d, tk, os⟩ := s
    wp_walk using wpAny_loadPart' g1, wpAny_loadPart' g2
    have e1 : xs[((i : Nat) : Int).toNat]? = none := by simp; omega
    have e2 : ys[((i : Nat) : Int).toNat]? = none := by simp; omega
    rw [e1, e2]
    wp_walk using wpAny_loadPart' g1, wpAny_loadPart' g2
    show R (.ok (.ret (.bool (xs.size == ys.size)))) _
    rw [hsz]
    simpa using fin
  | succ k ih =>
    rintro i hk A R s ⟨rfl, st, q⟩
    obtain ⟨n1, d1, s1, g1⟩ := hl s st
    obtain ⟨n2, d2, s2, g2⟩ := hb s st
    have at1 : i < xs.size := by omega
    have at2 : i < ys.size := by omega
    have one := he s st i at1 at2
    obtain ⟨hp, g, d, tk, os⟩ := s
    wp_walk using wpAny_loadPart' g1, wpAny_loadPart' g2
    have e1 : xs[((i : Nat) : Int).toNat]? = some xs[i] := by simp [at1]
    have e2 : ys[((i : Nat) : Int).toNat]? = some ys[i] := by simp [at2]
    have up : ((i : Int) + 1) = ((i + 1 : Nat) : Int) := by push_cast; rfl
    rw [e1, e2]
    refine wpAny_bind (one _ _ fun t tst => ?_)
    obtain ⟨m1, f1, u1, v1⟩ := hl t tst
    obtain ⟨m2, f2, u2, v2⟩ := hb t tst
    have next := ih (i + 1) (by omega) A R t ⟨rfl, tst, q⟩
    obtain ⟨hp, g, d, tk, os⟩ := t
    wp_walk
    rw [up]
    refine ⟨plainId_quiet plain_eq_loop _, codeAny_builtin entry_eq_loop ?_⟩
    rw [Around.under_plainId plain_eq_loop _]
    exact next
theorem eq_all {A0 : Around} {St : Shared → Prop} {l b : Addr} {xs ys : Array Value} (hl : ∀ s, St s → LstAt s l xs) (hb : ∀ s, St s → LstAt s b ys) (hsz : xs.size = ys.size)
    (he : ∀ s, St s → ∀ (j : Nat) (h1 : j < xs.size) (h2 : j < ys.size) (E : Value → Shared → Prop) (Q : Bool → Shared → Prop), (∀ s', St s' → Q true s') → wpAny (model prog w) A0.in1 (eqBool xs[j] ys[j]) Q E s) :
    MeetsIn prog w (Builtin.«list.__eq__» ⟨[.ref l, .ref b], []⟩) (fun A R s => A = A0 ∧ St s ∧ ∀ s', St s' → R (.ok (.ret (.bool true))) s') := by
  rintro A R s ⟨rfl, st, q⟩
  obtain ⟨n1, d1, s1, g1⟩ := hl s st
  obtain ⟨n2, d2, s2, g2⟩ := hb s st
  have go := eq_turns hl hb hsz he _ 0 rfl A R s ⟨rfl, st, q⟩
  obtain ⟨hp, g, d, tk, os⟩ := s
  have sub := AutoSeq1.sub_list_list
  have same : ¬ (xs.size != ys.size) = true := by simp [hsz]
  wp_walk using wpAny_loadPart' g1, wpAny_loadPart' g2
  refine ⟨plainId_quiet plain_eq_loop _, codeAny_builtin entry_eq_loop ?_⟩
  rw [Around.under_plainId plain_eq_loop _]
  exact go
theorem rc_lists_own {A : Around} {s : Shared} {St : Shared → Prop} {l b : Addr} {xs ys : Array Value} (st : St s) (hl : ∀ s, St s → LstAt s l xs) (hb : ∀ s, St s → LstAt s b ys) (hsz : xs.size = ys.size) (hu : A.units < cLine)
    (he : ∀ s, St s → ∀ (j : Nat) (h1 : j < xs.size) (h2 : j < ys.size) (E : Value → Shared → Prop) (Q : Bool → Shared → Prop), (∀ s', St s' → Q true s') → wpAny (model prog w) A.in1 (eqBool xs[j] ys[j]) Q E s)
    (E Q : Value → Shared → Prop) (h : ∀ s', St s' → Q (.bool true) s') : wpAny (model prog w) A (richCompare .Eq (.ref l) (.ref b)) Q E s := by
  obtain ⟨n1, d1, s1, g1⟩ := hl s st
  obtain ⟨n2, d2, s2, g2⟩ := hb s st
  have ta : s.TypeIs (.ref l) "list" := ⟨_, g1, rfl⟩
  have tb : s.TypeIs (.ref b) "list" := ⟨_, g2, rfl⟩
  refine wpAny_richCompare_same_room (op := .Eq) ta tb F.slot_list_eq ?_ hu
  refine call_meetsIn F.slot_list_eq ta F.entry_list_eq (F.args_list_eq_2 _ _) (eq_all hl hb hsz he) ⟨rfl, st, fun s' st' => ?_⟩
  exact show Value.bool true ≠ Value.notImplemented ∧ Q (.bool true) s' from ⟨(fun x => nomatch x), h s' st'⟩
end
end R
namespace R
open PySem PySem.Spec PyProof.Rows L2 SeqAt
open PySem.W (Frag)
/-- lists of own instances that are equal, pair by pair -/
def rEqOL (K : Frag) (C : Addr) (sp : Sp) : R2 := fun x y H Q => ∃ (a b : Addr) (ps qs : List Addr), x = .ref a ∧ y = .ref b ∧ SqL K H a (ps.map V.ref) ∧ SqL K H b (qs.map V.ref) ∧ ps.length = qs.length ∧
  (∀ (j : Nat) (p q : Addr), ps[j]? = some p → qs[j]? = some q → (∃ dx fs, H p = some (.ins C dx fs)) ∧ (∃ dx fs, H q = some (.ins C dx fs)) ∧ ∀ Q' : VK, Q' (.bl true) H → sp [.ref p, .ref q] H Q' (fun _ _ _ => False)) ∧ Q (.bl true) H
theorem vals_rfs : ∀ {ps : List Addr} {us : List Value}, Vals (ps.map V.ref) us → us = ps.map Value.ref
  | [], _, .nil => rfl
  | p :: ps, _, .cons r t => by
    obtain rfl := (show _ = Value.ref p from r)
    rw [vals_rfs t, List.map_cons]
section
variable {X : Cx} {n : Nat} {C f : Addr} {fd : FuncData} {ps : List Str} {sp : Sp}
theorem op_eqOL (F : FnOk X.prog X.w X.K X.mg X.base CX0 n f fd ps sp) (hr : Room (n + 1) X.A) (hs : PySem.W.findIn X.K (.ref C) "__eq__" = some (some (.ref f))) (hf : PySem.W.isFn X.K (.ref f) = true) (hb : Binds X.K fd ps []) : OpR X (compareOp .Eq) (rEqOL X.K C sp) := by
  intro pins s σ H x y u v Q I rx ry h
  obtain ⟨a, b, ps, qs, rfl, rfl, ha, hb', hl, each, q⟩ := h
  cases rx
  cases ry
  show wpAny (model X.prog X.w) X.A (richCompare .Eq (.ref a) (.ref b)) (EP X pins σ Q) X.xe s
  have lst : ∀ {c : Addr} {rs : List Addr}, SqL X.K H c (rs.map V.ref) → ∀ t, Inv X pins σ H t → LstAt t c (rs.map Value.ref).toArray := fun hc t J => by
    obtain ⟨its, rv, ⟨⟨cls, dd, data, sl⟩, n, ho, h1, hdn, h2⟩, hz⟩ := J.list hc
    simp only at h1 h2
    subst h1 h2
    rw [← vals_rfs rv]
    exact ⟨n, dd, sl, ho⟩
  refine rc_lists_own (St := fun t => Inv X pins σ H t) I (lst ha) (lst hb') (by simp [hl]) hr.units0 (fun t J j h1 h2 E Q' hq => ?_) _ _ fun t J => ⟨.bl true, H, J, rfl, q⟩
  have l1 : j < ps.length := by simpa using h1
  have l2 : j < qs.length := by simpa using h2
  obtain ⟨⟨dx, fs, hp⟩, ⟨dy, gs, hq'⟩, hsp⟩ := each j _ _ (List.getElem?_eq_getElem l1) (List.getElem?_eq_getElem l2)
  have e1 : (ps.map Value.ref).toArray[j] = Value.ref ps[j] := by simp
  have e2 : (qs.map Value.ref).toArray[j] = Value.ref qs[j] := by simp
  rw [e1, e2]
  generalize ps[j] = p at hp hsp ⊢
  generalize qs[j] = q' at hq' hsp ⊢
  unfold eqBool
  refine wpAny_holding ?_
  refine wpAny_ite_split (fun _ => wpAny_bind (wpAny_rule (wpAny_pure (hq t J)))) (fun _ => ?_)
  obtain ⟨mA, J1, _⟩ := ins_get J.hok hp
  obtain ⟨od, J1, _⟩ := J1.look
  obtain ⟨mB, J2, _⟩ := ins_get J.hok hq'
  obtain ⟨od', J2, _⟩ := J2.look
  obtain ⟨m, hF⟩ := J.fr
  refine wpAny_bind (PySem.W.cmp_K (op := .Eq) (tb := .ref C) hr.in1.units0 hF J.ok.mod.kin J1 J2.type (by simp [PySem.W.notFirst]) hs hf ?_)
  have want := hsp (fun v H' => v = .bl true ∧ H' = H) ⟨rfl, rfl⟩
  have hlen := F.len _ _ _ _ want
  have r2 : Vals [V.ref p, V.ref q'] [Value.ref p, Value.ref q'] := .cons rfl (.cons rfl .nil)
  refine wpAny_call (codeAny_mono (F.run X.A.in1 X.stack t H ⟨[.ref p, .ref q'], []⟩ [.ref p, .ref q'] [.ref p, .ref q'] _ _ hr.in1 J.env0.in1 (by
    have := hb t [.ref p, .ref q'] J.kIn (by simpa using hlen)
    simpa using this) r2 want) fun r t' hq2 => ?_)
  cases r with
  | error e => exact hq2.elim
  | ok fl =>
    cases fl with
    | ret w =>
      obtain ⟨z, H', J', rz, ⟨ez, eH⟩⟩ := J.after hq2
      subst ez eH
      cases rz
      exact wpAny_truthy_bool (hq _ J')
    | next => exact False.elim hq2
    | brk => exact False.elim hq2
    | cont => exact False.elim hq2
end
/-- a target o.f among others -/
def gFld (K : Frag) (ta : TE) (f : Str) : TG := fun v σ H Q => ta σ H fun x H2 => rSetF K f x v H2 fun H3 => Q σ H3
theorem pg_fld {X : Cx} {o : Expr} {ta : TE} {f : Str} {pos : Pos} (ha : PE X o ta) : PG X (.Attribute o f pos) (gFld X.K ta f) := by
  refine ⟨fun pins s σ H v u Q I r h => ?_⟩
  rw [assign_Attribute]
  refine wpAny_bind (wpAny_holding (thn (ha.run pins s σ H _ I h) fun ov s1 ⟨x, H1, I1, r1, q1⟩ => ?_))
  obtain ⟨a, C, dx, fs, rfl, ea, c, n, l, q1⟩ := q1
  obtain rfl : ov = Value.ref a := r1
  refine wpAny_bind (wpAny_standAt (wpAny_bind (wpAny_holding ?_)))
  exact setattr_ok I1 ea c n l r fun s3 I3 => wpAny_release ⟨σ, _, I3, q1⟩
theorem a_gfld {K : Frag} {ta : TE} {f : Str} {v : V} {σ : L2.St} {H : Hp} {Q : L2.St → Hp → Prop} (h : ta σ H fun x H2 => rSetF K f x v H2 fun H3 => Q σ H3) : gFld K ta f v σ H Q := h
end R
namespace R
open PySem L2
/-- two owned things of one heap -/
theorem Own.refl2 {H : Hp} {x l : Addr} {o u : HO} (hx : H x = some o) (hl : H l = some u) (ne : l ≠ x) : Own (del1 (del1 H x) l) [(l, u), (x, o)] H := by
  have O := Own.refl1 hx
  refine ⟨fun b v e => O.st b v (by unfold del1 at e; split at e; · cases e
                                    · exact e), fun q hq => ?_, fun q hq => ?_, by simp [ne]⟩
  · rcases List.mem_cons.mp hq with rfl | hq
    · exact hl
    · rw [List.mem_singleton] at hq; rw [hq]; exact hx
  · rcases List.mem_cons.mp hq with rfl | hq
    · unfold del1; rw [if_pos rfl]
    · rw [List.mem_singleton] at hq; rw [hq]
      rw [del1_ne (fun z => ne z.symm)]; unfold del1; rw [if_pos rfl]
theorem del2_ne {H : Hp} {x l b : Addr} (h1 : b ≠ x) (h2 : b ≠ l) : del1 (del1 H x) l b = H b := by rw [del1_ne h2, del1_ne h1]
/-- a call has changed some owned things: what is new goes into the base -/
theorem Own.absorb {B H H' : Hp} {Lw Lw' : List (Addr × HO)} (O : Own B Lw H) (hk : Lw'.map (·.1) = Lw.map (·.1)) (k : ∀ b v, b ∉ Lw.map (·.1) → H b = some v → H' b = some v) (now : ∀ q ∈ Lw', H' q.1 = some q.2) :
    ∃ B', Same B B' ∧ Own B' Lw' H' ∧ ∀ a u, H a = none → H' a = some u → B' a = some u := by
  refine ⟨fun a => if a ∈ Lw.map (·.1) then none else H' a, fun a u e => ?_, ⟨fun a u e => ?_, now, fun q hq => ?_, ?_⟩, fun a u h1 h2 => ?_⟩
  · have n : a ∉ Lw.map (·.1) := fun z => by
      obtain ⟨q, hq, rfl⟩ := List.mem_map.mp z
      rw [O.no q hq] at e; cases e
    show (if a ∈ Lw.map (·.1) then none else H' a) = some u
    rw [if_neg n]
    exact k a u n (O.st _ _ e)
  · have e : (if a ∈ Lw.map (·.1) then none else H' a) = some u := e
    split at e
    · cases e
    · exact e
  · have m : q.1 ∈ Lw.map (·.1) := by rw [← hk]; exact List.mem_map.mpr ⟨q, hq, rfl⟩
    show (if q.1 ∈ Lw.map (·.1) then none else H' q.1) = none
    rw [if_pos m]
  · rw [hk]; exact O.nd
  · have n : a ∉ Lw.map (·.1) := fun z => by
      obtain ⟨q, hq, rfl⟩ := List.mem_map.mp z
      rw [O.ow q hq] at h1; cases h1
    show (if a ∈ Lw.map (·.1) then none else H' a) = some u
    rw [if_neg n]
    exact h2
end R
namespace R
open PySem PySem.Spec PyProof.Rows L2
open PySem.W (Frag)
/-- o.m(..) within a try: what is raised is told at the slots -/
def tMethS (C : Addr) (m : Str) (sp : Sp) (E : L2.St → XK) (ta : TE) (t : TA) : TE := fun σ H Q => ta σ H fun x H1 => ∃ a dx fs, x = .ref a ∧ H1 a = some (.ins C dx fs) ∧ fs.lookup m = none ∧ t σ H1 fun vs H2 => sp (.ref a :: vs) H2 Q (E σ)
theorem pe_methS {X : Cx} {CX : CXT} {k : Nat} {C f : Addr} {fd : FuncData} {ps : List Str} {sp : Sp} {E : L2.St → XK} {m : Str} {o e : Expr} {es : List Expr} {ta : TE} {t : TA} {apos pos : Pos} {pl : Sem Bool} (he : PE X o ta) (c : Cls X.K C) (hm : Meth X.K C m f) (F : FnOk X.prog X.w X.K X.mg X.base CX k f fd ps sp) (hr : Room k X.A) (hb : Binds X.K fd ps []) (hx : ∀ σ, PassesAt CX X σ (E σ)) (ha : PA X (e :: es) t)
    (hst : starEach (e :: es) X.env = (false, eval e X.env) :: starEach es X.env := by rfl) (hpl : (backTo pos (starEach es X.env)).any (·.1) = false := by rfl)
    (ht : eval (.Call (.Attribute o m apos) (e :: es) [] pos) X.env = (do
      let v ← eval o X.env
      standAt apos.atName
      let (g, first) ← holding [v] (getMethod v m pl)
      callWith pos g first (backTo pos (starEach (e :: es) X.env)) (backToKw pos (keywordEach [] X.env))) := by rfl) :
    PE X (.Call (.Attribute o m apos) (e :: es) [] pos) (tMethS C m sp E ta t) := by
  refine ⟨fun pins s σ H Q I h => ?_⟩
  refine PySem.W.methodCall_KW (pl := pl) (thn (he.run pins s σ H _ I h) fun u s1 ⟨x, H1, I1, rx, a, dx, fs, ex, ea, l, q⟩ => ?_) ht
  subst ex
  obtain rfl : u = Value.ref a := rx
  refine getmeth_ok I1 ea c hm l ?_
  refine PySem.W.callWith_K (first := [.ref a]) (h₀ := X.base) I.ok.mod.kin hm.kp (thn (ha.run pos pins s1 σ H1 _ I1 q) fun us s2 ⟨vs, H2, I2, r, q2⟩ => ⟨I2.kIn, ?_⟩) hst hpl
  exact run_fnS (us := .ref a :: us) (vs := .ref a :: vs) F hr hb (hx σ) I2 (.cons rfl r) q2
theorem a_methS {C : Addr} {m : Str} {sp : Sp} {E : L2.St → XK} {ta : TE} {t : TA} {σ : L2.St} {H : Hp} {Q : VK} (h : ta σ H fun x H1 => ∃ a dx fs, x = .ref a ∧ H1 a = some (.ins C dx fs) ∧ fs.lookup m = none ∧ t σ H1 fun vs H2 => sp (.ref a :: vs) H2 Q (E σ)) : tMethS C m sp E ta t σ H Q := h
end R
namespace R
open PySem PySem.Spec PyProof.Rows L2
open PySem.W (Frag)
/-- t + (v,), the right one just made: some new tuple -/
theorem a_catN {K : Frag} {B H : Hp} {Lw : List (Addr × HO)} {p q : Addr} {xs : List V} {v : V} {Q : VK} (O : Own B ((q, .tup [v]) :: Lw) H) (ha : B p = some (.tup xs)) (hz : xs.length ≤ 1000000)
    (c : ∀ r H', Own B ((r, .tup (xs ++ [v])) :: Lw) H' → Q (.ref r) H') : rCatA K (.ref p) (.ref q) H Q := by
  refine ⟨p, q, xs, [v], rfl, rfl, O.tup (SqT.of ha), O.tq 0 rfl, Nat.le_trans (show xs.length + 1 ≤ 2000000 by omega) (by decide), fun e => ?_, fun _ e => (by cases e), fun _ _ r hr => ?_⟩
  · subst e
    exact c q H O
  · exact c r _ (Own.new O hr).tail2
end R

local macro_rules | `(tactic| walk_at "s") => `(tactic| first
  | with_reducible refine R.a_seq ?_ | with_reducible refine R.a_asg ?_ | with_reducible refine R.a_gname ?_ | ((with_reducible refine' R.a_var ?h1 ?h2); (case h1 => rfl)) | with_reducible refine R.a_c ?_
  | with_reducible refine R.a_op ?_ | with_reducible refine R.a_un ?_ | with_reducible refine R.a_neg ?_ | with_reducible refine R.a_drop ?_ | with_reducible refine R.a_ret ?_ | with_reducible refine R.a_retN ?_
  | with_reducible refine R.a_test ?_ | with_reducible refine R.a_tB ?_ | with_reducible refine R.a_bk ?_ | with_reducible refine R.a_and ?_ | with_reducible refine R.a_or ?_ | with_reducible refine R.a_not ?_
  | with_reducible refine R.a_andV ?_ | with_reducible refine R.a_orV ?_ | with_reducible refine R.a_notV ?_ | with_reducible refine R.a_bv ?_ | with_reducible refine R.a_ifE ?_
  | with_reducible refine R.a_nil ?_ | with_reducible refine R.a_cons ?_ | with_reducible refine R.a_tup ?_ | with_reducible refine R.a_lst ?_ | with_reducible refine R.a_cb ?_ | with_reducible refine R.a_call ?_ | with_reducible refine R.a_chain ?_
  | with_reducible refine R.a_sl ?_ | with_reducible refine R.a_npart ?_ | with_reducible refine R.a_part ?_ | with_reducible refine R.a_ik ?_ | with_reducible refine R.a_gsub ?_ | with_reducible refine R.a_bm ?_ | with_reducible refine R.a_bm0 ?_ | with_reducible refine R.a_par ?_ | with_reducible refine R.a_par2 ?_
  | with_reducible refine R.a_for ?_ | with_reducible refine R.a_rev ?_ | with_reducible refine R.a_iL ?_ | with_reducible refine R.a_iT ?_ | with_reducible refine R.a_enum ?_ | with_reducible refine R.a_lc ?_ | with_reducible refine R.a_rng1 ?_ | with_reducible refine R.a_rng2 ?_ | with_reducible refine R.a_next ?_ | with_reducible refine R.a_yes ?_ | with_reducible refine R.a_gcons ?_ | with_reducible refine R.a_gnil ?_
  | ((with_reducible refine R.a_rng1' ?h1 ?h2 ?h3); (case h1 => omega); (case h2 => omega)) | ((with_reducible refine R.a_rng2' ?h1 ?h2); (case h1 => omega))
  | with_reducible refine R.a_I0 ?_ | with_reducible refine R.a_eqI ?_ | with_reducible refine R.a_neI ?_ | with_reducible refine R.a_isN1 ?_ | with_reducible refine R.a_notN1 ?_
  | ((with_reducible refine R.a_isN0 ?h1 ?h2); (case h1 => (intro z; cases z))) | ((with_reducible refine R.a_notN0 ?h1 ?h2); (case h1 => (intro z; cases z)))
  | with_reducible refine R.a_isiI ?_ | with_reducible refine R.a_isiB ?_
  | ((with_reducible refine R.a_I ?h1 ?h2); (case h1 => first | omega | exact R.mx_l (by omega) (by omega) | exact R.mx_r (by omega) (by omega) | exact R.divW (by omega) (by omega)))
  | with_reducible refine R.a_tt ?_ | with_reducible refine R.a_ff ?_ | with_reducible refine R.a_nt ?_ | with_reducible refine R.a_nf ?_)
-- a test whose answer is known
local macro_rules | `(tactic| walk_at "k") => `(tactic| first
  | ((with_reducible refine R.a_itT ?h1 ?h2); (case h1 => first | assumption | omega)) | ((with_reducible refine R.a_itF ?h1 ?h2); (case h1 => first | assumption | omega))
  | ((with_reducible refine R.a_niT ?h1 ?h2); (case h1 => first | assumption | omega)) | ((with_reducible refine R.a_niF ?h1 ?h2); (case h1 => first | assumption | omega)))
local macro_rules | `(tactic| walk_at "k") => `(tactic| first
  | ((with_reducible refine R.a_cT ?h1 ?h2 ?h3); (case h1 => first | assumption | omega); (case h2 => first | assumption | omega))
  | ((with_reducible refine R.a_ncT ?h1 ?h2 ?h3); (case h1 => first | assumption | omega); (case h2 => first | assumption | omega)))
local macro_rules | `(tactic| walk_at "c") => `(tactic| fail)
local macro_rules | `(tactic| walk_at "sq") => `(tactic| first | assumption | (refine' R.Own.sq ?o 0 ?e; (case o => assumption); (case e => rfl)) | (refine' R.Own.sq ?o 1 ?e; (case o => assumption); (case e => rfl)) | (refine' R.Own.sq ?o 2 ?e; (case o => assumption); (case e => rfl)) | (refine' R.Own.sq ?o 3 ?e; (case o => assumption); (case e => rfl)) | (refine' R.Own.sq ?o 4 ?e; (case o => assumption); (case e => rfl)) | (refine' R.Own.sq ?o 5 ?e; (case o => assumption); (case e => rfl)) | (refine' R.Own.sq ?o 6 ?e; (case o => assumption); (case e => rfl)) | (refine' R.Own.sq ?o 7 ?e; (case o => assumption); (case e => rfl)) | (refine' R.Own.sq ?o 8 ?e; (case o => assumption); (case e => rfl)) | (refine' R.Own.sq ?o 9 ?e; (case o => assumption); (case e => rfl)) | (refine' R.Own.seq ?o ?e; (case o => assumption); (case e => assumption)))
local macro_rules | `(tactic| walk_at "tq") => `(tactic| first | assumption | (refine' R.Own.tq ?o 0 ?e; (case o => assumption); (case e => rfl)) | (refine' R.Own.tq ?o 1 ?e; (case o => assumption); (case e => rfl)) | (refine' R.Own.tq ?o 2 ?e; (case o => assumption); (case e => rfl)) | (refine' R.Own.tq ?o 3 ?e; (case o => assumption); (case e => rfl)) | (refine' R.Own.tq ?o 4 ?e; (case o => assumption); (case e => rfl)) | (refine' R.Own.tq ?o 5 ?e; (case o => assumption); (case e => rfl)) | (refine' R.Own.tq ?o 6 ?e; (case o => assumption); (case e => rfl)) | (refine' R.Own.tq ?o 7 ?e; (case o => assumption); (case e => rfl)) | (refine' R.Own.tq ?o 8 ?e; (case o => assumption); (case e => rfl)) | (refine' R.Own.tq ?o 9 ?e; (case o => assumption); (case e => rfl)) | (refine' R.Own.tup ?o ?e; (case o => assumption); (case e => assumption)))
local macro_rules | `(tactic| walk_at "c") => `(tactic| first
  | ((with_reducible refine' R.a_ixL ?s ?a ?q); (case s => walk_at "sq"); (case a => rfl))
  | ((with_reducible refine' R.a_ixT ?s ?a ?q); (case s => walk_at "tq"); (case a => rfl))
  | ((with_reducible refine' R.a_gtup ?k1 ?k2 ?k3); (case k1 => walk_at "tq"); (case k2 => rfl))
  | with_reducible refine R.a_int1 ?_ | with_reducible refine R.a_abs ?_
  | ((with_reducible refine' R.a_len ?k1 ?k2); (case k1 => first | (refine Or.inl ?_; walk_at "sq") | (refine Or.inr ?_; walk_at "tq")))
  | ((with_reducible refine' R.a_pow (k := 18) ?n ?k ?m ?q); (case n => rfl); (case k => decide); (case m => decide)) | ((with_reducible refine' R.a_pow (k := 40) ?n ?k ?m ?q); (case n => rfl); (case k => decide); (case m => decide)) | ((with_reducible refine' R.a_pow (k := 6) ?n ?k ?m ?q); (case n => rfl); (case k => decide); (case m => decide)) | ((with_reducible refine' R.a_pow (k := 20) ?n ?k ?m ?q); (case n => rfl); (case k => decide); (case m => decide)) | ((with_reducible refine' R.a_pow (k := 30) ?n ?k ?m ?q); (case n => rfl); (case k => decide); (case m => decide)) | ((with_reducible refine' R.a_pow (k := 39) ?n ?k ?m ?q); (case n => rfl); (case k => decide); (case m => decide))
  | ((with_reducible refine' R.a_setL ?k1 0 ?k2 ?k3 ?k4); (case k1 => assumption); (case k2 => rfl); (case k3 => rfl); intro H' O') | ((with_reducible refine' R.a_setL ?k1 1 ?k2 ?k3 ?k4); (case k1 => assumption); (case k2 => rfl); (case k3 => rfl); intro H' O') | ((with_reducible refine' R.a_setL ?k1 2 ?k2 ?k3 ?k4); (case k1 => assumption); (case k2 => rfl); (case k3 => rfl); intro H' O') | ((with_reducible refine' R.a_setL ?k1 3 ?k2 ?k3 ?k4); (case k1 => assumption); (case k2 => rfl); (case k3 => rfl); intro H' O') | ((with_reducible refine' R.a_setL ?k1 4 ?k2 ?k3 ?k4); (case k1 => assumption); (case k2 => rfl); (case k3 => rfl); intro H' O') | ((with_reducible refine' R.a_setL ?k1 5 ?k2 ?k3 ?k4); (case k1 => assumption); (case k2 => rfl); (case k3 => rfl); intro H' O') | ((with_reducible refine' R.a_setL ?k1 6 ?k2 ?k3 ?k4); (case k1 => assumption); (case k2 => rfl); (case k3 => rfl); intro H' O') | ((with_reducible refine' R.a_setL ?k1 7 ?k2 ?k3 ?k4); (case k1 => assumption); (case k2 => rfl); (case k3 => rfl); intro H' O') | ((with_reducible refine' R.a_setL ?k1 8 ?k2 ?k3 ?k4); (case k1 => assumption); (case k2 => rfl); (case k3 => rfl); intro H' O') | ((with_reducible refine' R.a_setL ?k1 9 ?k2 ?k3 ?k4); (case k1 => assumption); (case k2 => rfl); (case k3 => rfl); intro H' O'))
local macro_rules | `(tactic| walk_at "app") => `(tactic| first | ((with_reducible refine' R.a_app ?k1 0 ?k2 ?k3 ?k4); (case k1 => assumption); (case k2 => rfl)) | ((with_reducible refine' R.a_app ?k1 1 ?k2 ?k3 ?k4); (case k1 => assumption); (case k2 => rfl)) | ((with_reducible refine' R.a_app ?k1 2 ?k2 ?k3 ?k4); (case k1 => assumption); (case k2 => rfl)) | ((with_reducible refine' R.a_app ?k1 3 ?k2 ?k3 ?k4); (case k1 => assumption); (case k2 => rfl)) | ((with_reducible refine' R.a_app ?k1 4 ?k2 ?k3 ?k4); (case k1 => assumption); (case k2 => rfl)) | ((with_reducible refine' R.a_app ?k1 5 ?k2 ?k3 ?k4); (case k1 => assumption); (case k2 => rfl)))
local macro_rules | `(tactic| walk_at "mkL") => `(tactic| ((with_reducible refine' R.a_mkL ?k1 ?k2 ?k3); (case k1 => assumption); (case k2 => first | exact Nat.zero_le _ | (simp only [List.length_cons, List.length_nil, List.length_map]; omega))))
local macro_rules | `(tactic| walk_at "mkT") => `(tactic| ((with_reducible refine' R.a_mkT ?k1 ?k2 ?k3); (case k1 => assumption); (case k2 => first | exact Nat.zero_le _ | (simp only [List.length_cons, List.length_nil, List.length_map]; omega))))
local macro_rules | `(tactic| walk_at "h") => `(tactic| repeat (first | walk_at "s" | walk_at "k" | walk_at "c"))
local macro_rules | `(tactic| walk_at "g") => `(tactic| repeat (first | walk_at "s" | walk_at "k" | walk_at "c" | with_reducible refine R.a_if ?_))
local macro_rules | `(tactic| walk_at "s") => `(tactic| with_reducible refine R.a_enumT ?_)
local macro_rules | `(tactic| walk_at "s") => `(tactic| first | with_reducible refine R.a_fld ?_ | with_reducible refine R.a_sfld ?_ | with_reducible refine R.a_make ?_)
local macro_rules | `(tactic| walk_at "c") => `(tactic| ((with_reducible refine' R.a_glst ?k1 ?k2 ?k3); (case k1 => walk_at "sq"); (case k2 => rfl)))
local macro_rules | `(tactic| walk_at "s") => `(tactic| first | with_reducible refine R.a_neB ?_ | with_reducible refine R.a_eqB ?_ | with_reducible refine R.a_neO ?_ | with_reducible refine R.a_isO1 ?_ | with_reducible refine R.a_isO0 ?_ | with_reducible refine R.a_notO1 ?_ | with_reducible refine R.a_notO0 ?_)
local macro_rules | `(tactic| walk_at "s") => `(tactic| first | with_reducible refine R.a_par3 ?_ | with_reducible refine R.a_par33 ?_)
local macro_rules | `(tactic| walk_at "s") => `(tactic| first | with_reducible refine R.a_neS ?_ | with_reducible refine R.a_eqS ?_)
local macro_rules | `(tactic| walk_at "s") => `(tactic| first | with_reducible refine R.a_lstRg ?_ | with_reducible refine R.a_rg2 ?_)
local macro_rules | `(tactic| walk_at "s") => `(tactic| first | with_reducible refine R.a_rng3 ?_ | ((with_reducible refine R.a_rngD ?h1 ?h2); (case h1 => omega)))
local macro_rules | `(tactic| walk_at "s") => `(tactic| first | with_reducible refine R.a_vei ?_ | with_reducible refine R.a_ost ?_ | with_reducible refine R.a_raise0 ?_ | with_reducible refine R.a_raise1 ?_ | with_reducible refine R.a_r1 ?_ | with_reducible refine R.a_try ?_ | with_reducible refine R.a_as ?_ | with_reducible refine R.a_xf ?_ | with_reducible refine R.a_callV ?_ | with_reducible refine R.a_callS ?_ | with_reducible refine R.a_makeS ?_ | with_reducible refine R.a_meth ?_)
local macro_rules | `(tactic| walk_at "callV") => `(tactic| ((first | refine ⟨_, _, rfl, (.head _), ?_⟩ | refine ⟨_, _, rfl, (.tail _ (.head _)), ?_⟩ | refine ⟨_, _, rfl, (.tail _ (.tail _ (.head _))), ?_⟩ | refine ⟨_, _, rfl, (.tail _ (.tail _ (.tail _ (.head _)))), ?_⟩ | refine ⟨_, _, rfl, (.tail _ (.tail _ (.tail _ (.tail _ (.head _))))), ?_⟩ | refine ⟨_, _, rfl, (.tail _ (.tail _ (.tail _ (.tail _ (.tail _ (.head _)))))), ?_⟩ | refine ⟨_, _, rfl, (.tail _ (.tail _ (.tail _ (.tail _ (.tail _ (.tail _ (.head _))))))), ?_⟩ | refine ⟨_, _, rfl, (.tail _ (.tail _ (.tail _ (.tail _ (.tail _ (.tail _ (.tail _ (.head _)))))))), ?_⟩); walk_at "g"))
local macro_rules | `(tactic| walk_at "s") => `(tactic| first | with_reducible refine R.a_neS1 ?_ | with_reducible refine R.a_eqS1 ?_)
local macro_rules | `(tactic| walk_at "badv") => `(tactic| first | exact R.BadV.non | exact R.BadV.bl | exact R.BadV.str (by first | rfl | decide +kernel) | exact R.BadV.int (by omega))
local macro_rules | `(tactic| walk_at "s") => `(tactic| with_reducible refine R.a_prop ?_)

namespace Toy
open PySem PySem.Spec PyProof.Rows L2 R
open PySem.W (Frag)
def topS (i : Nat) : Stmt := PySem.Challenge.pw_resttricks_k41_asked_again.main.body.getD i (.Pass ⟨0, 0, 0, 0⟩)
abbrev s_is_from : Stmt := (topS 16)
abbrev N_is_from : List Str := ["value", "low", "high"]
abbrev p_is_from : List Str := ["value", "low", "high"]
theorem sc_is_from : FnScope N_is_from p_is_from (defScope s_is_from) := ⟨rfl, rfl, rfl, by decide +kernel, rfl, by decide +kernel, by decide +kernel⟩
abbrev s_need_base : Stmt := (topS 17)
abbrev N_need_base : List Str := ["base"]
abbrev p_need_base : List Str := ["base"]
theorem sc_need_base : FnScope N_need_base p_need_base (defScope s_need_base) := ⟨rfl, rfl, rfl, by decide +kernel, rfl, by decide +kernel, by decide +kernel⟩
abbrev s_need_number : Stmt := (topS 18)
abbrev N_need_number : List Str := ["n"]
abbrev p_need_number : List Str := ["n"]
theorem sc_need_number : FnScope N_need_number p_need_number (defScope s_need_number) := ⟨rfl, rfl, rfl, by decide +kernel, rfl, by decide +kernel, by decide +kernel⟩
abbrev s_need_divisor : Stmt := (topS 19)
abbrev N_need_divisor : List Str := ["d", "most"]
abbrev p_need_divisor : List Str := ["d", "most"]
theorem sc_need_divisor : FnScope N_need_divisor p_need_divisor (defScope s_need_divisor) := ⟨rfl, rfl, rfl, by decide +kernel, rfl, by decide +kernel, by decide +kernel⟩
abbrev s_common : Stmt := (topS 20)
abbrev N_common : List Str := ["one", "other", "great", "less"]
abbrev p_common : List Str := ["one", "other"]
theorem sc_common : FnScope N_common p_common (defScope s_common) := ⟨rfl, rfl, rfl, by decide +kernel, rfl, by decide +kernel, by decide +kernel⟩
abbrev s_power : Stmt := (topS 21)
abbrev N_power : List Str := ["base", "many", "found", "turn"]
abbrev p_power : List Str := ["base", "many"]
theorem sc_power : FnScope N_power p_power (defScope s_power) := ⟨rfl, rfl, rfl, by decide +kernel, rfl, by decide +kernel, by decide +kernel⟩
abbrev s_Trick_init : Stmt := (inClass (topS 26) 0)
abbrev N_Trick_init : List Str := ["self", "base", "take", "times"]
abbrev p_Trick_init : List Str := ["self", "base", "take", "times"]
theorem sc_Trick_init : FnScope N_Trick_init p_Trick_init (defScope s_Trick_init) := ⟨rfl, rfl, rfl, by decide +kernel, rfl, by decide +kernel, by decide +kernel⟩
abbrev s_Trick_base : Stmt := (inClass (topS 26) 1)
abbrev N_Trick_base : List Str := ["self"]
abbrev p_Trick_base : List Str := ["self"]
theorem sc_Trick_base : FnScope N_Trick_base p_Trick_base (defScope s_Trick_base) := ⟨rfl, rfl, rfl, by decide +kernel, rfl, by decide +kernel, by decide +kernel⟩
abbrev s_Trick_take : Stmt := (inClass (topS 26) 2)
abbrev N_Trick_take : List Str := ["self"]
abbrev p_Trick_take : List Str := ["self"]
theorem sc_Trick_take : FnScope N_Trick_take p_Trick_take (defScope s_Trick_take) := ⟨rfl, rfl, rfl, by decide +kernel, rfl, by decide +kernel, by decide +kernel⟩
abbrev s_Trick_times : Stmt := (inClass (topS 26) 3)
abbrev N_Trick_times : List Str := ["self"]
abbrev p_Trick_times : List Str := ["self"]
theorem sc_Trick_times : FnScope N_Trick_times p_Trick_times (defScope s_Trick_times) := ⟨rfl, rfl, rfl, by decide +kernel, rfl, by decide +kernel, by decide +kernel⟩
abbrev s_need_trick : Stmt := (topS 27)
abbrev N_need_trick : List Str := ["trick"]
abbrev p_need_trick : List Str := ["trick"]
theorem sc_need_trick : FnScope N_need_trick p_need_trick (defScope s_need_trick) := ⟨rfl, rfl, rfl, by decide +kernel, rfl, by decide +kernel, by decide +kernel⟩
abbrev s_behind : Stmt := (topS 28)
abbrev N_behind : List Str := ["trick", "n"]
abbrev p_behind : List Str := ["trick", "n"]
theorem sc_behind : FnScope N_behind p_behind (defScope s_behind) := ⟨rfl, rfl, rfl, by decide +kernel, rfl, by decide +kernel, by decide +kernel⟩
abbrev s_trail : Stmt := (topS 29)
abbrev N_trail : List Str := ["trick", "n", "rounds", "found", "turn"]
abbrev p_trail : List Str := ["trick", "n", "rounds"]
theorem sc_trail : FnScope N_trail p_trail (defScope s_trail) := ⟨rfl, rfl, rfl, by decide +kernel, rfl, by decide +kernel, by decide +kernel⟩
abbrev s_ahead : Stmt := (topS 30)
abbrev N_ahead : List Str := ["trick", "n", "rests", "rest", "whole"]
abbrev p_ahead : List Str := ["trick", "n"]
theorem sc_ahead : FnScope N_ahead p_ahead (defScope s_ahead) := ⟨rfl, rfl, rfl, by decide +kernel, rfl, by decide +kernel, by decide +kernel⟩
abbrev s_wide_of_ends : Stmt := (topS 32)
abbrev N_wide_of_ends : List Str := ["trick"]
abbrev p_wide_of_ends : List Str := ["trick"]
theorem sc_wide_of_ends : FnScope N_wide_of_ends p_wide_of_ends (defScope s_wide_of_ends) := ⟨rfl, rfl, rfl, by decide +kernel, rfl, by decide +kernel, by decide +kernel⟩
abbrev s_bound_by : Stmt := (topS 34)
abbrev N_bound_by : List Str := ["trick", "size"]
abbrev p_bound_by : List Str := ["trick"]
theorem sc_bound_by : FnScope N_bound_by p_bound_by (defScope s_bound_by) := ⟨rfl, rfl, rfl, by decide +kernel, rfl, by decide +kernel, by decide +kernel⟩
abbrev s_ring_from : Stmt := (topS 35)
abbrev N_ring_from : List Str := ["trick", "n", "found", "here", "at"]
abbrev p_ring_from : List Str := ["trick", "n"]
theorem sc_ring_from : FnScope N_ring_from p_ring_from (defScope s_ring_from) := ⟨rfl, rfl, rfl, by decide +kernel, rfl, by decide +kernel, by decide +kernel⟩
abbrev s_rings : Stmt := (topS 36)
abbrev N_rings : List Str := ["trick", "most", "seen", "found", "begun", "way", "here"]
abbrev p_rings : List Str := ["trick"]
theorem sc_rings : FnScope N_rings p_rings (defScope s_rings) := ⟨rfl, rfl, rfl, by decide +kernel, rfl, by decide +kernel, by decide +kernel⟩
abbrev s_first_fail_judging : Stmt := (topS 38)
abbrev N_first_fail_judging : List Str := ["trick", "d", "n"]
abbrev p_first_fail_judging : List Str := ["trick", "d"]
theorem sc_first_fail_judging : FnScope N_first_fail_judging p_first_fail_judging (defScope s_first_fail_judging) := ⟨rfl, rfl, rfl, by decide +kernel, rfl, by decide +kernel, by decide +kernel⟩
abbrev s_word_of : Stmt := (topS 40)
abbrev N_word_of : List Str := ["unlike", "fail"]
abbrev p_word_of : List Str := ["unlike", "fail"]
theorem sc_word_of : FnScope N_word_of p_word_of (defScope s_word_of) := ⟨rfl, rfl, rfl, by decide +kernel, rfl, by decide +kernel, by decide +kernel⟩
abbrev s_multipliers : Stmt := (topS 41)
abbrev N_multipliers : List Str := ["base", "take", "d", "block", "times"]
abbrev p_multipliers : List Str := ["base", "take", "d"]
theorem sc_multipliers : FnScope N_multipliers p_multipliers (defScope s_multipliers) := ⟨rfl, rfl, rfl, by decide +kernel, rfl, by decide +kernel, by decide +kernel⟩
abbrev s_divisors : Stmt := (topS 42)
abbrev N_divisors : List Str := ["trick", "most", "d"]
abbrev p_divisors : List Str := ["trick", "most"]
theorem sc_divisors : FnScope N_divisors p_divisors (defScope s_divisors) := ⟨rfl, rfl, rfl, by decide +kernel, rfl, by decide +kernel, by decide +kernel⟩
abbrev s_need_tricks : Stmt := (topS 47)
abbrev N_need_tricks : List Str := ["tricks", "index", "trick"]
abbrev p_need_tricks : List Str := ["tricks"]
theorem sc_need_tricks : FnScope N_need_tricks p_need_tricks (defScope s_need_tricks) := ⟨rfl, rfl, rfl, by decide +kernel, rfl, by decide +kernel, by decide +kernel⟩
abbrev s_behind_all : Stmt := (topS 48)
abbrev N_behind_all : List Str := ["tricks", "n", "trick"]
abbrev p_behind_all : List Str := ["tricks", "n"]
theorem sc_behind_all : FnScope N_behind_all p_behind_all (defScope s_behind_all) := ⟨rfl, rfl, rfl, by decide +kernel, rfl, by decide +kernel, by decide +kernel⟩
abbrev s_chained : Stmt := (topS 49)
abbrev N_chained : List Str := ["tricks", "n"]
abbrev p_chained : List Str := ["tricks", "n"]
theorem sc_chained : FnScope N_chained p_chained (defScope s_chained) := ⟨rfl, rfl, rfl, by decide +kernel, rfl, by decide +kernel, by decide +kernel⟩
abbrev s_wide_of_chains : Stmt := (topS 50)
abbrev N_wide_of_chains : List Str := ["tricks", "found", "trick"]
abbrev p_wide_of_chains : List Str := ["tricks"]
theorem sc_wide_of_chains : FnScope N_wide_of_chains p_wide_of_chains (defScope s_wide_of_chains) := ⟨rfl, rfl, rfl, by decide +kernel, rfl, by decide +kernel, by decide +kernel⟩
abbrev s_need_chain : Stmt := (topS 52)
abbrev N_need_chain : List Str := ["tricks", "d"]
abbrev p_need_chain : List Str := ["tricks", "d"]
theorem sc_need_chain : FnScope N_need_chain p_need_chain (defScope s_need_chain) := ⟨rfl, rfl, rfl, by decide +kernel, rfl, by decide +kernel, by decide +kernel⟩
abbrev s_first_fail_chains : Stmt := (topS 53)
abbrev N_first_fail_chains : List Str := ["tricks", "d", "n"]
abbrev p_first_fail_chains : List Str := ["tricks", "d"]
theorem sc_first_fail_chains : FnScope N_first_fail_chains p_first_fail_chains (defScope s_first_fail_chains) := ⟨rfl, rfl, rfl, by decide +kernel, rfl, by decide +kernel, by decide +kernel⟩
abbrev s_first_unlike : Stmt := (topS 55)
abbrev N_first_unlike : List Str := ["tricks", "d", "n"]
abbrev p_first_unlike : List Str := ["tricks", "d"]
theorem sc_first_unlike : FnScope N_first_unlike p_first_unlike (defScope s_first_unlike) := ⟨rfl, rfl, rfl, by decide +kernel, rfl, by decide +kernel, by decide +kernel⟩
abbrev s_chain_tells : Stmt := (topS 56)
abbrev N_chain_tells : List Str := ["tricks", "d"]
abbrev p_chain_tells : List Str := ["tricks", "d"]
theorem sc_chain_tells : FnScope N_chain_tells p_chain_tells (defScope s_chain_tells) := ⟨rfl, rfl, rfl, by decide +kernel, rfl, by decide +kernel, by decide +kernel⟩
abbrev s_need_length : Stmt := (topS 59)
abbrev N_need_length : List Str := ["length"]
abbrev p_need_length : List Str := ["length"]
theorem sc_need_length : FnScope N_need_length p_need_length (defScope s_need_length) := ⟨rfl, rfl, rfl, by decide +kernel, rfl, by decide +kernel, by decide +kernel⟩
abbrev s_slip_by : Stmt := (topS 60)
abbrev N_slip_by : List Str := ["base", "d", "length", "factor", "place", "less"]
abbrev p_slip_by : List Str := ["base", "d", "length", "factor"]
theorem sc_slip_by : FnScope N_slip_by p_slip_by (defScope s_slip_by) := ⟨rfl, rfl, rfl, by decide +kernel, rfl, by decide +kernel, by decide +kernel⟩
abbrev s_good_divisors : Stmt := (topS 61)
abbrev N_good_divisors : List Str := ["base", "length", "most", "found", "d"]
abbrev p_good_divisors : List Str := ["base", "length", "most"]
theorem sc_good_divisors : FnScope N_good_divisors p_good_divisors (defScope s_good_divisors) := ⟨rfl, rfl, rfl, by decide +kernel, rfl, by decide +kernel, by decide +kernel⟩
abbrev s_Reckoner_init : Stmt := (inClass (topS 63) 0)
abbrev N_Reckoner_init : List Str := ["self", "n"]
abbrev p_Reckoner_init : List Str := ["self", "n"]
theorem sc_Reckoner_init : FnScope N_Reckoner_init p_Reckoner_init (defScope s_Reckoner_init) := ⟨rfl, rfl, rfl, by decide +kernel, rfl, by decide +kernel, by decide +kernel⟩
abbrev s_Reckoner_now : Stmt := (inClass (topS 63) 1)
abbrev N_Reckoner_now : List Str := ["self"]
abbrev p_Reckoner_now : List Str := ["self"]
theorem sc_Reckoner_now : FnScope N_Reckoner_now p_Reckoner_now (defScope s_Reckoner_now) := ⟨rfl, rfl, rfl, by decide +kernel, rfl, by decide +kernel, by decide +kernel⟩
abbrev s_Reckoner_step : Stmt := (inClass (topS 63) 3)
abbrev N_Reckoner_step : List Str := ["self", "trick"]
abbrev p_Reckoner_step : List Str := ["self", "trick"]
theorem sc_Reckoner_step : FnScope N_Reckoner_step p_Reckoner_step (defScope s_Reckoner_step) := ⟨rfl, rfl, rfl, by decide +kernel, rfl, by decide +kernel, by decide +kernel⟩
abbrev s_Reckoner_undo : Stmt := (inClass (topS 63) 4)
abbrev N_Reckoner_undo : List Str := ["self"]
abbrev p_Reckoner_undo : List Str := ["self"]
theorem sc_Reckoner_undo : FnScope N_Reckoner_undo p_Reckoner_undo (defScope s_Reckoner_undo) := ⟨rfl, rfl, rfl, by decide +kernel, rfl, by decide +kernel, by decide +kernel⟩
abbrev s_Reckoner_copy : Stmt := (inClass (topS 63) 5)
abbrev N_Reckoner_copy : List Str := ["self", "found"]
abbrev p_Reckoner_copy : List Str := ["self"]
theorem sc_Reckoner_copy : FnScope N_Reckoner_copy p_Reckoner_copy (defScope s_Reckoner_copy) := ⟨rfl, rfl, rfl, by decide +kernel, rfl, by decide +kernel, by decide +kernel⟩
abbrev s_Reckoner_len : Stmt := (inClass (topS 63) 6)
abbrev N_Reckoner_len : List Str := ["self"]
abbrev p_Reckoner_len : List Str := ["self"]
theorem sc_Reckoner_len : FnScope N_Reckoner_len p_Reckoner_len (defScope s_Reckoner_len) := ⟨rfl, rfl, rfl, by decide +kernel, rfl, by decide +kernel, by decide +kernel⟩
abbrev s_need_pairs : Stmt := (topS 66)
abbrev N_need_pairs : List Str := ["pairs", "index", "pair", "one"]
abbrev p_need_pairs : List Str := ["pairs"]
theorem sc_need_pairs : FnScope N_need_pairs p_need_pairs (defScope s_need_pairs) := ⟨rfl, rfl, rfl, by decide +kernel, rfl, by decide +kernel, by decide +kernel⟩
abbrev s_factors_of : Stmt := (topS 67)
abbrev N_factors_of : List Str := ["block", "pairs", "rests", "some", "rest", "less", "times", "n", "later", "other", "left"]
abbrev p_factors_of : List Str := ["block", "pairs"]
theorem sc_factors_of : FnScope N_factors_of p_factors_of (defScope s_factors_of) := ⟨rfl, rfl, rfl, by decide +kernel, rfl, by decide +kernel, by decide +kernel⟩
abbrev s_fitting : Stmt := (topS 68)
abbrev N_fitting : List Str := ["pairs", "found", "base", "take", "times"]
abbrev p_fitting : List Str := ["pairs"]
theorem sc_fitting : FnScope N_fitting p_fitting (defScope s_fitting) := ⟨rfl, rfl, rfl, by decide +kernel, rfl, by decide +kernel, by decide +kernel⟩
abbrev s_law_taken : Stmt := (topS 70)
abbrev N_law_taken : List Str := ["_law_row", "_law_many", "_law_found", "_law_cell"]
abbrev p_law_taken : List Str := ["_law_row", "_law_many"]
theorem sc_law_taken : FnScope N_law_taken p_law_taken (defScope s_law_taken) := ⟨rfl, rfl, rfl, by decide +kernel, rfl, by decide +kernel, by decide +kernel⟩
abbrev s_law_power : Stmt := (topS 71)
abbrev N_law_power : List Str := ["_law_base", "_law_many", "_law_found", "_law_turn"]
abbrev p_law_power : List Str := ["_law_base", "_law_many"]
theorem sc_law_power : FnScope N_law_power p_law_power (defScope s_law_power) := ⟨rfl, rfl, rfl, by decide +kernel, rfl, by decide +kernel, by decide +kernel⟩
abbrev s_law_trick : Stmt := (topS 72)
abbrev N_law_trick : List Str := ["_law_row", "_law_small", "_law_base", "_law_take", "_law_times", "_law_d", "_law_some", "_law_one"]
abbrev p_law_trick : List Str := ["_law_row", "_law_small"]
theorem sc_law_trick : FnScope N_law_trick p_law_trick (defScope s_law_trick) := ⟨rfl, rfl, rfl, by decide +kernel, rfl, by decide +kernel, by decide +kernel⟩
abbrev s_law_behind : Stmt := (topS 73)
abbrev N_law_behind : List Str := ["_law_told_here", "_law_n", "_law_base", "_law_take", "_law_times", "_law_block", "_law_rest"]
abbrev p_law_behind : List Str := ["_law_told_here", "_law_n"]
theorem sc_law_behind : FnScope N_law_behind p_law_behind (defScope s_law_behind) := ⟨rfl, rfl, rfl, by decide +kernel, rfl, by decide +kernel, by decide +kernel⟩
abbrev s_law_number : Stmt := (topS 74)
abbrev N_law_number : List Str := ["_law_row", "_law_size", "_law_n"]
abbrev p_law_number : List Str := ["_law_row"]
theorem sc_law_number : FnScope N_law_number p_law_number (defScope s_law_number) := ⟨rfl, rfl, rfl, by decide +kernel, rfl, by decide +kernel, by decide +kernel⟩
abbrev s_law_chain : Stmt := (topS 75)
abbrev N_law_chain : List Str := ["_law_row", "_law_found", "_law_wide", "_law_k", "_law_told_here"]
abbrev p_law_chain : List Str := ["_law_row"]
theorem sc_law_chain : FnScope N_law_chain p_law_chain (defScope s_law_chain) := ⟨rfl, rfl, rfl, by decide +kernel, rfl, by decide +kernel, by decide +kernel⟩
abbrev s_law_tricks : Stmt := (topS 76)
abbrev N_law_tricks : List Str := ["_law_told_here", "_law_base", "_law_take", "_law_times"]
abbrev p_law_tricks : List Str := ["_law_told_here"]
theorem sc_law_tricks : FnScope N_law_tricks p_law_tricks (defScope s_law_tricks) := ⟨rfl, rfl, rfl, by decide +kernel, rfl, by decide +kernel, by decide +kernel⟩
abbrev s_law_told : Stmt := (topS 77)
abbrev N_law_told : List Str := ["_law_trick_here", "_law_chain_here", "_law_n", "_law_pairs", "_law_got"]
abbrev p_law_told : List Str := ["_law_trick_here", "_law_chain_here", "_law_n", "_law_pairs"]
theorem sc_law_told : FnScope N_law_told p_law_told (defScope s_law_told) := ⟨rfl, rfl, rfl, by decide +kernel, rfl, by decide +kernel, by decide +kernel⟩
abbrev s_law : Stmt := (topS 78)
abbrev N_law : List Str := ["_law_script", "_law_line", "_law_told_here", "_law_trick_here", "_law_n", "_law_chain_here", "_law_pairs", "_law_handed", "_law_given", "_law_first", "_law_kept", "_law_one", "_law_reckoner", "_law_mate", "_law_twin"]
abbrev p_law : List Str := ["_law_script"]
theorem sc_law : FnScope N_law p_law (defScope s_law) := ⟨rfl, rfl, rfl, by decide +kernel, rfl, by decide +kernel, by decide +kernel⟩
structure Adr where
  f_is_from : Addr
  d_is_from : FuncData
  f_need_base : Addr
  d_need_base : FuncData
  f_need_number : Addr
  d_need_number : FuncData
  f_need_divisor : Addr
  d_need_divisor : FuncData
  f_common : Addr
  d_common : FuncData
  f_power : Addr
  d_power : FuncData
  f_Trick_init : Addr
  d_Trick_init : FuncData
  f_Trick_base : Addr
  d_Trick_base : FuncData
  f_Trick_take : Addr
  d_Trick_take : FuncData
  f_Trick_times : Addr
  d_Trick_times : FuncData
  f_need_trick : Addr
  d_need_trick : FuncData
  f_behind : Addr
  d_behind : FuncData
  f_trail : Addr
  d_trail : FuncData
  f_ahead : Addr
  d_ahead : FuncData
  f_wide_of_ends : Addr
  d_wide_of_ends : FuncData
  f_bound_by : Addr
  d_bound_by : FuncData
  f_ring_from : Addr
  d_ring_from : FuncData
  f_rings : Addr
  d_rings : FuncData
  f_first_fail_judging : Addr
  d_first_fail_judging : FuncData
  f_word_of : Addr
  d_word_of : FuncData
  f_multipliers : Addr
  d_multipliers : FuncData
  f_divisors : Addr
  d_divisors : FuncData
  f_need_tricks : Addr
  d_need_tricks : FuncData
  f_behind_all : Addr
  d_behind_all : FuncData
  f_chained : Addr
  d_chained : FuncData
  f_wide_of_chains : Addr
  d_wide_of_chains : FuncData
  f_need_chain : Addr
  d_need_chain : FuncData
  f_first_fail_chains : Addr
  d_first_fail_chains : FuncData
  f_first_unlike : Addr
  d_first_unlike : FuncData
  f_chain_tells : Addr
  d_chain_tells : FuncData
  f_need_length : Addr
  d_need_length : FuncData
  f_slip_by : Addr
  d_slip_by : FuncData
  f_good_divisors : Addr
  d_good_divisors : FuncData
  f_Reckoner_init : Addr
  d_Reckoner_init : FuncData
  f_Reckoner_now : Addr
  d_Reckoner_now : FuncData
  f_Reckoner_step : Addr
  d_Reckoner_step : FuncData
  f_Reckoner_undo : Addr
  d_Reckoner_undo : FuncData
  f_Reckoner_copy : Addr
  d_Reckoner_copy : FuncData
  f_Reckoner_len : Addr
  d_Reckoner_len : FuncData
  f_need_pairs : Addr
  d_need_pairs : FuncData
  f_factors_of : Addr
  d_factors_of : FuncData
  f_fitting : Addr
  d_fitting : FuncData
  f_law_taken : Addr
  d_law_taken : FuncData
  f_law_power : Addr
  d_law_power : FuncData
  f_law_trick : Addr
  d_law_trick : FuncData
  f_law_behind : Addr
  d_law_behind : FuncData
  f_law_number : Addr
  d_law_number : FuncData
  f_law_chain : Addr
  d_law_chain : FuncData
  f_law_tricks : Addr
  d_law_tricks : FuncData
  f_law_told : Addr
  d_law_told : FuncData
  f_law : Addr
  d_law : FuncData
  c_Trick : Addr
  c_Reckoner : Addr
  p_Trick_base : Addr
  p_Trick_take : Addr
  p_Trick_times : Addr
  p_Reckoner_now : Addr
structure Txt (K : Frag) (mg : Str → Option Value) (Z : Adr) : Prop where
  F_is_from : Fun K "is_from" "is_from" s_is_from Z.f_is_from Z.d_is_from
  b_is_from : Binds K Z.d_is_from p_is_from []
  g_is_from : mg "is_from" = some (.ref Z.f_is_from)
  F_need_base : Fun K "need_base" "need_base" s_need_base Z.f_need_base Z.d_need_base
  b_need_base : Binds K Z.d_need_base p_need_base []
  g_need_base : mg "need_base" = some (.ref Z.f_need_base)
  F_need_number : Fun K "need_number" "need_number" s_need_number Z.f_need_number Z.d_need_number
  b_need_number : Binds K Z.d_need_number p_need_number []
  g_need_number : mg "need_number" = some (.ref Z.f_need_number)
  F_need_divisor : Fun K "need_divisor" "need_divisor" s_need_divisor Z.f_need_divisor Z.d_need_divisor
  b_need_divisor : Binds K Z.d_need_divisor p_need_divisor []
  g_need_divisor : mg "need_divisor" = some (.ref Z.f_need_divisor)
  F_common : Fun K "common" "common" s_common Z.f_common Z.d_common
  b_common : Binds K Z.d_common p_common []
  g_common : mg "common" = some (.ref Z.f_common)
  F_power : Fun K "power" "power" s_power Z.f_power Z.d_power
  b_power : Binds K Z.d_power p_power []
  g_power : mg "power" = some (.ref Z.f_power)
  F_Trick_init : Fun K "__init__" "Trick.__init__" s_Trick_init Z.f_Trick_init Z.d_Trick_init
  b_Trick_init : Binds K Z.d_Trick_init p_Trick_init []
  F_Trick_base : Fun K "base" "Trick.base" s_Trick_base Z.f_Trick_base Z.d_Trick_base
  b_Trick_base : Binds K Z.d_Trick_base p_Trick_base []
  pr_Trick_base : PropOf K Z.c_Trick "base" Z.p_Trick_base Z.f_Trick_base
  F_Trick_take : Fun K "take" "Trick.take" s_Trick_take Z.f_Trick_take Z.d_Trick_take
  b_Trick_take : Binds K Z.d_Trick_take p_Trick_take []
  pr_Trick_take : PropOf K Z.c_Trick "take" Z.p_Trick_take Z.f_Trick_take
  F_Trick_times : Fun K "times" "Trick.times" s_Trick_times Z.f_Trick_times Z.d_Trick_times
  b_Trick_times : Binds K Z.d_Trick_times p_Trick_times []
  pr_Trick_times : PropOf K Z.c_Trick "times" Z.p_Trick_times Z.f_Trick_times
  F_need_trick : Fun K "need_trick" "need_trick" s_need_trick Z.f_need_trick Z.d_need_trick
  b_need_trick : Binds K Z.d_need_trick p_need_trick []
  g_need_trick : mg "need_trick" = some (.ref Z.f_need_trick)
  F_behind : Fun K "behind" "behind" s_behind Z.f_behind Z.d_behind
  b_behind : Binds K Z.d_behind p_behind []
  g_behind : mg "behind" = some (.ref Z.f_behind)
  F_trail : Fun K "trail" "trail" s_trail Z.f_trail Z.d_trail
  b_trail : Binds K Z.d_trail p_trail []
  g_trail : mg "trail" = some (.ref Z.f_trail)
  F_ahead : Fun K "ahead" "ahead" s_ahead Z.f_ahead Z.d_ahead
  b_ahead : Binds K Z.d_ahead p_ahead []
  g_ahead : mg "ahead" = some (.ref Z.f_ahead)
  F_wide_of_ends : Fun K "wide_of" "wide_of" s_wide_of_ends Z.f_wide_of_ends Z.d_wide_of_ends
  b_wide_of_ends : Binds K Z.d_wide_of_ends p_wide_of_ends []
  g_wide_of_ends : mg "wide_of_ends" = some (.ref Z.f_wide_of_ends)
  F_bound_by : Fun K "bound_by" "bound_by" s_bound_by Z.f_bound_by Z.d_bound_by
  b_bound_by : Binds K Z.d_bound_by p_bound_by []
  g_bound_by : mg "bound_by" = some (.ref Z.f_bound_by)
  F_ring_from : Fun K "ring_from" "ring_from" s_ring_from Z.f_ring_from Z.d_ring_from
  b_ring_from : Binds K Z.d_ring_from p_ring_from []
  g_ring_from : mg "ring_from" = some (.ref Z.f_ring_from)
  F_rings : Fun K "rings" "rings" s_rings Z.f_rings Z.d_rings
  b_rings : Binds K Z.d_rings p_rings []
  g_rings : mg "rings" = some (.ref Z.f_rings)
  F_first_fail_judging : Fun K "first_fail" "first_fail" s_first_fail_judging Z.f_first_fail_judging Z.d_first_fail_judging
  b_first_fail_judging : Binds K Z.d_first_fail_judging p_first_fail_judging []
  g_first_fail_judging : mg "first_fail_judging" = some (.ref Z.f_first_fail_judging)
  F_word_of : Fun K "word_of" "word_of" s_word_of Z.f_word_of Z.d_word_of
  b_word_of : Binds K Z.d_word_of p_word_of []
  g_word_of : mg "word_of" = some (.ref Z.f_word_of)
  F_multipliers : Fun K "multipliers" "multipliers" s_multipliers Z.f_multipliers Z.d_multipliers
  b_multipliers : Binds K Z.d_multipliers p_multipliers []
  g_multipliers : mg "multipliers" = some (.ref Z.f_multipliers)
  F_divisors : Fun K "divisors" "divisors" s_divisors Z.f_divisors Z.d_divisors
  b_divisors : Binds K Z.d_divisors p_divisors []
  g_divisors : mg "divisors" = some (.ref Z.f_divisors)
  F_need_tricks : Fun K "need_tricks" "need_tricks" s_need_tricks Z.f_need_tricks Z.d_need_tricks
  b_need_tricks : Binds K Z.d_need_tricks p_need_tricks []
  g_need_tricks : mg "need_tricks" = some (.ref Z.f_need_tricks)
  F_behind_all : Fun K "behind_all" "behind_all" s_behind_all Z.f_behind_all Z.d_behind_all
  b_behind_all : Binds K Z.d_behind_all p_behind_all []
  g_behind_all : mg "behind_all" = some (.ref Z.f_behind_all)
  F_chained : Fun K "chained" "chained" s_chained Z.f_chained Z.d_chained
  b_chained : Binds K Z.d_chained p_chained []
  g_chained : mg "chained" = some (.ref Z.f_chained)
  F_wide_of_chains : Fun K "wide_of" "wide_of" s_wide_of_chains Z.f_wide_of_chains Z.d_wide_of_chains
  b_wide_of_chains : Binds K Z.d_wide_of_chains p_wide_of_chains []
  g_wide_of_chains : mg "wide_of_chains" = some (.ref Z.f_wide_of_chains)
  F_need_chain : Fun K "need_chain" "need_chain" s_need_chain Z.f_need_chain Z.d_need_chain
  b_need_chain : Binds K Z.d_need_chain p_need_chain []
  g_need_chain : mg "need_chain" = some (.ref Z.f_need_chain)
  F_first_fail_chains : Fun K "first_fail" "first_fail" s_first_fail_chains Z.f_first_fail_chains Z.d_first_fail_chains
  b_first_fail_chains : Binds K Z.d_first_fail_chains p_first_fail_chains []
  g_first_fail_chains : mg "first_fail_chains" = some (.ref Z.f_first_fail_chains)
  F_first_unlike : Fun K "first_unlike" "first_unlike" s_first_unlike Z.f_first_unlike Z.d_first_unlike
  b_first_unlike : Binds K Z.d_first_unlike p_first_unlike []
  g_first_unlike : mg "first_unlike" = some (.ref Z.f_first_unlike)
  F_chain_tells : Fun K "chain_tells" "chain_tells" s_chain_tells Z.f_chain_tells Z.d_chain_tells
  b_chain_tells : Binds K Z.d_chain_tells p_chain_tells []
  g_chain_tells : mg "chain_tells" = some (.ref Z.f_chain_tells)
  F_need_length : Fun K "need_length" "need_length" s_need_length Z.f_need_length Z.d_need_length
  b_need_length : Binds K Z.d_need_length p_need_length []
  g_need_length : mg "need_length" = some (.ref Z.f_need_length)
  F_slip_by : Fun K "slip_by" "slip_by" s_slip_by Z.f_slip_by Z.d_slip_by
  b_slip_by : Binds K Z.d_slip_by p_slip_by []
  g_slip_by : mg "slip_by" = some (.ref Z.f_slip_by)
  F_good_divisors : Fun K "good_divisors" "good_divisors" s_good_divisors Z.f_good_divisors Z.d_good_divisors
  b_good_divisors : Binds K Z.d_good_divisors p_good_divisors []
  g_good_divisors : mg "good_divisors" = some (.ref Z.f_good_divisors)
  F_Reckoner_init : Fun K "__init__" "Reckoner.__init__" s_Reckoner_init Z.f_Reckoner_init Z.d_Reckoner_init
  b_Reckoner_init : Binds K Z.d_Reckoner_init p_Reckoner_init []
  F_Reckoner_now : Fun K "now" "Reckoner.now" s_Reckoner_now Z.f_Reckoner_now Z.d_Reckoner_now
  b_Reckoner_now : Binds K Z.d_Reckoner_now p_Reckoner_now []
  pr_Reckoner_now : PropOf K Z.c_Reckoner "now" Z.p_Reckoner_now Z.f_Reckoner_now
  F_Reckoner_step : Fun K "step" "Reckoner.step" s_Reckoner_step Z.f_Reckoner_step Z.d_Reckoner_step
  b_Reckoner_step : Binds K Z.d_Reckoner_step p_Reckoner_step []
  m_Reckoner_step : Meth K Z.c_Reckoner "step" Z.f_Reckoner_step
  F_Reckoner_undo : Fun K "undo" "Reckoner.undo" s_Reckoner_undo Z.f_Reckoner_undo Z.d_Reckoner_undo
  b_Reckoner_undo : Binds K Z.d_Reckoner_undo p_Reckoner_undo []
  m_Reckoner_undo : Meth K Z.c_Reckoner "undo" Z.f_Reckoner_undo
  F_Reckoner_copy : Fun K "copy" "Reckoner.copy" s_Reckoner_copy Z.f_Reckoner_copy Z.d_Reckoner_copy
  b_Reckoner_copy : Binds K Z.d_Reckoner_copy p_Reckoner_copy []
  m_Reckoner_copy : Meth K Z.c_Reckoner "copy" Z.f_Reckoner_copy
  F_Reckoner_len : Fun K "__len__" "Reckoner.__len__" s_Reckoner_len Z.f_Reckoner_len Z.d_Reckoner_len
  b_Reckoner_len : Binds K Z.d_Reckoner_len p_Reckoner_len []
  m_Reckoner_len : Meth K Z.c_Reckoner "__len__" Z.f_Reckoner_len
  F_need_pairs : Fun K "need_pairs" "need_pairs" s_need_pairs Z.f_need_pairs Z.d_need_pairs
  b_need_pairs : Binds K Z.d_need_pairs p_need_pairs []
  g_need_pairs : mg "need_pairs" = some (.ref Z.f_need_pairs)
  F_factors_of : Fun K "factors_of" "factors_of" s_factors_of Z.f_factors_of Z.d_factors_of
  b_factors_of : Binds K Z.d_factors_of p_factors_of []
  g_factors_of : mg "factors_of" = some (.ref Z.f_factors_of)
  F_fitting : Fun K "fitting" "fitting" s_fitting Z.f_fitting Z.d_fitting
  b_fitting : Binds K Z.d_fitting p_fitting []
  g_fitting : mg "fitting" = some (.ref Z.f_fitting)
  F_law_taken : Fun K "_law_taken" "_law_taken" s_law_taken Z.f_law_taken Z.d_law_taken
  b_law_taken : Binds K Z.d_law_taken p_law_taken []
  g_law_taken : mg "_law_taken" = some (.ref Z.f_law_taken)
  F_law_power : Fun K "_law_power" "_law_power" s_law_power Z.f_law_power Z.d_law_power
  b_law_power : Binds K Z.d_law_power p_law_power []
  g_law_power : mg "_law_power" = some (.ref Z.f_law_power)
  F_law_trick : Fun K "_law_trick" "_law_trick" s_law_trick Z.f_law_trick Z.d_law_trick
  b_law_trick : Binds K Z.d_law_trick p_law_trick []
  g_law_trick : mg "_law_trick" = some (.ref Z.f_law_trick)
  F_law_behind : Fun K "_law_behind" "_law_behind" s_law_behind Z.f_law_behind Z.d_law_behind
  b_law_behind : Binds K Z.d_law_behind p_law_behind []
  g_law_behind : mg "_law_behind" = some (.ref Z.f_law_behind)
  F_law_number : Fun K "_law_number" "_law_number" s_law_number Z.f_law_number Z.d_law_number
  b_law_number : Binds K Z.d_law_number p_law_number []
  g_law_number : mg "_law_number" = some (.ref Z.f_law_number)
  F_law_chain : Fun K "_law_chain" "_law_chain" s_law_chain Z.f_law_chain Z.d_law_chain
  b_law_chain : Binds K Z.d_law_chain p_law_chain []
  g_law_chain : mg "_law_chain" = some (.ref Z.f_law_chain)
  F_law_tricks : Fun K "_law_tricks" "_law_tricks" s_law_tricks Z.f_law_tricks Z.d_law_tricks
  b_law_tricks : Binds K Z.d_law_tricks p_law_tricks []
  g_law_tricks : mg "_law_tricks" = some (.ref Z.f_law_tricks)
  F_law_told : Fun K "_law_told" "_law_told" s_law_told Z.f_law_told Z.d_law_told
  b_law_told : Binds K Z.d_law_told p_law_told []
  g_law_told : mg "_law_told" = some (.ref Z.f_law_told)
  F_law : Fun K "law" "law" s_law Z.f_law Z.d_law
  b_law : Binds K Z.d_law p_law []
  g_law : mg "law" = some (.ref Z.f_law)
  g_Trick : mg "Trick" = some (.ref Z.c_Trick)
  cl_Trick : Cls K Z.c_Trick
  is_Trick : C8.InsC K Z.c_Trick
  M_Trick : Mk K Z.c_Trick Z.f_Trick_init
  nf_Trick_basis : NoAttr K Z.c_Trick "basis"
  nf_Trick_many : NoAttr K Z.c_Trick "many"
  nf_Trick_factor : NoAttr K Z.c_Trick "factor"
  nf_Trick_block : NoAttr K Z.c_Trick "block"
  g_Reckoner : mg "Reckoner" = some (.ref Z.c_Reckoner)
  cl_Reckoner : Cls K Z.c_Reckoner
  is_Reckoner : C8.InsC K Z.c_Reckoner
  M_Reckoner : Mk K Z.c_Reckoner Z.f_Reckoner_init
  nf_Reckoner_stood : NoAttr K Z.c_Reckoner "stood"
  nf_Reckoner_deeds : NoAttr K Z.c_Reckoner "deeds"
  v_LEAST_BASE : ∃ t, mg "LEAST_BASE" = some (.int (2) t)
  v_MOST_BASE : ∃ t, mg "MOST_BASE" = some (.int (16) t)
  v_MOST_NUMBER : ∃ t, mg "MOST_NUMBER" = some (.int (10000000000000000000000000000000000000000) t)
  v_MOST_DIVISOR : ∃ t, mg "MOST_DIVISOR" = some (.int (100) t)
  v_MOST_TAKE : ∃ t, mg "MOST_TAKE" = some (.int (2) t)
  v_MOST_TIMES : ∃ t, mg "MOST_TIMES" = some (.int (100) t)
  v_MOST_ROUNDS : ∃ t, mg "MOST_ROUNDS" = some (.int (200) t)
  v_MOST_TRICKS : ∃ t, mg "MOST_TRICKS" = some (.int (4) t)
  v_MOST_WIDE : ∃ t, mg "MOST_WIDE" = some (.int (300) t)
  v_MOST_CHAIN_DIVISOR : ∃ t, mg "MOST_CHAIN_DIVISOR" = some (.int (30) t)
  v_MOST_LENGTH : ∃ t, mg "MOST_LENGTH" = some (.int (40) t)
  v_MOST_PAIRS : ∃ t, mg "MOST_PAIRS" = some (.int (10) t)
  n_isinstance : mg "isinstance" = none
  n_int : mg "int" = none
  n_bool : mg "bool" = none
  n_abs : mg "abs" = none
  n_range : mg "range" = none
  n_sorted : mg "sorted" = none
  n_tuple : mg "tuple" = none
  n_min : mg "min" = none
  n_enumerate : mg "enumerate" = none
  n_list : mg "list" = none
  n_len : mg "len" = none
  n_all : mg "all" = none
section
variable {P : Program} {w : World} {K : Frag} {mg : Str → Option Value} {base : Heap} {Z : Adr}

/-! ### is_from -/
def sp_is_from (K : Frag) : Sp := fun vs H Q _ => ∃ i lo hi : Int, vs = [.int i, .int lo, .int hi] ∧ Q (.bl (decide (lo ≤ i) && decide (i ≤ hi))) H
theorem use_is_from {K : Frag} {i lo hi : Int} {H : Hp} {Q : VK} {E : XK} (h : Q (.bl (decide (lo ≤ i) && decide (i ≤ hi))) H) : sp_is_from K ([.int i, .int lo, .int hi] ++ []) H Q E := ⟨_, _, _, rfl, h⟩
theorem ok_is_from (T : Txt K mg Z) : FnOk P w K mg base CX0 1 Z.f_is_from Z.d_is_from p_is_from (sp_is_from K) := by
  refine T.F_is_from.ok sc_is_from (fun vs H Q E h => ?_) (fun cdv A outer s H vs Q E hr h => ?_)
  · obtain ⟨_, _, _, rfl, _⟩ := h; rfl
  · obtain ⟨i, lo, hi, rfl, h⟩ := h
    refine ⟨_, (pss_one (ps_ret (pe_and (pe_callB (r := rIsi K) call_isi (by rfl) T.n_isinstance boot_isinstance (pa_cons (pv 0) (pa_cons (pe_bltn (v := .ty "int") (by rfl) T.n_int boot_int rfl) pa_nil))) (pe_and (pe_not (pe_callB (r := rIsi K) call_isi (by rfl) T.n_isinstance boot_isinstance (pa_cons (pv 0) (pa_cons (pe_bltn (v := .ty "bool") (by rfl) T.n_bool boot_bool rfl) pa_nil)))) (pe_one (pe_chain op_le op_le (pv 1) (pv 0) (pv 2))))))), ?_⟩
    walk_at "g"
    refine a_it2 (fun c => ?_) (fun c => ?_)
    · walk_at "g"
      rw [decide_eq_true c, Bool.true_and] at h; exact h
    · rw [decide_eq_false c] at h; exact h
-- @USE
local macro_rules | `(tactic| walk_at "c") => `(tactic| with_reducible refine use_is_from ?_)

/-! ### need_base -/
def sp_need_base : Sp := fun vs H Q _ => ∃ b : Int, vs = [.int b] ∧ 2 ≤ b ∧ b ≤ 16 ∧ Q .non H
theorem use_need_base {b : Int} {H : Hp} {Q : VK} {E : XK} (h1 : 2 ≤ b) (h2 : b ≤ 16) (h : Q .non H) : sp_need_base ([.int b] ++ []) H Q E := ⟨_, rfl, h1, h2, h⟩
theorem ok_need_base (T : Txt K mg Z) : FnOk P w K mg base CX0 2 Z.f_need_base Z.d_need_base p_need_base sp_need_base := by
  refine T.F_need_base.ok sc_need_base (fun vs H Q E h => ?_) (fun cdv A outer s H vs Q E hr h => ?_)
  · obtain ⟨_, rfl, _⟩ := h; rfl
  · obtain ⟨b, rfl, h1, h2, h⟩ := h
    refine ⟨_, (pss_one (ps_if (pt_not (pt_val (pe_call (ok_is_from T) (hr.mono (by decide)) rfl T.g_is_from T.F_is_from.kp T.b_is_from .nil pass0 (pa_cons (pv 0) (pa_cons (pe_globI rfl T.v_LEAST_BASE) (pa_cons (pe_globI rfl T.v_MOST_BASE) pa_nil)))))) (pss_one ps_never) pss_nil)), ?_⟩
    walk_at "g"
    exact h
-- @USE
local macro_rules | `(tactic| walk_at "c") => `(tactic| ((with_reducible refine use_need_base ?h1 ?h2 ?h3); (case h1 => omega); (case h2 => omega)))

/-! ### need_number -/
def sp_need_number : Sp := fun vs H Q _ => ∃ n : Int, vs = [.int n] ∧ -(10 ^ 40) ≤ n ∧ n ≤ 10 ^ 40 ∧ Q .non H
theorem use_need_number {n : Int} {H : Hp} {Q : VK} {E : XK} (h1 : -(10 ^ 40) ≤ n) (h2 : n ≤ 10 ^ 40) (h : Q .non H) : sp_need_number ([.int n] ++ []) H Q E := ⟨_, rfl, h1, h2, h⟩
theorem ok_need_number (T : Txt K mg Z) : FnOk P w K mg base CX0 2 Z.f_need_number Z.d_need_number p_need_number sp_need_number := by
  refine T.F_need_number.ok sc_need_number (fun vs H Q E h => ?_) (fun cdv A outer s H vs Q E hr h => ?_)
  · obtain ⟨_, rfl, _⟩ := h; rfl
  · obtain ⟨n, rfl, h1, h2, h⟩ := h
    refine ⟨_, (pss_one (ps_if (pt_not (pt_val (pe_call (ok_is_from T) (hr.mono (by decide)) rfl T.g_is_from T.F_is_from.kp T.b_is_from .nil pass0 (pa_cons (pv 0) (pa_cons (pe_un un_neg (pe_globI rfl T.v_MOST_NUMBER)) (pa_cons (pe_globI rfl T.v_MOST_NUMBER) pa_nil)))))) (pss_one ps_never) pss_nil)), ?_⟩
    walk_at "g"
    exact h
-- @USE
local macro_rules | `(tactic| walk_at "c") => `(tactic| ((with_reducible refine use_need_number ?h1 ?h2 ?h3); (case h1 => omega); (case h2 => omega)))

/-! ### need_divisor -/
def sp_need_divisor : Sp := fun vs H Q _ => ∃ d m : Int, vs = [.int d, .int m] ∧ 1 ≤ d ∧ d ≤ m ∧ Q .non H
theorem use_need_divisor {d m : Int} {H : Hp} {Q : VK} {E : XK} (h1 : 1 ≤ d) (h2 : d ≤ m) (h : Q .non H) : sp_need_divisor ([.int d, .int m] ++ []) H Q E := ⟨_, _, rfl, h1, h2, h⟩
theorem ok_need_divisor (T : Txt K mg Z) : FnOk P w K mg base CX0 2 Z.f_need_divisor Z.d_need_divisor p_need_divisor sp_need_divisor := by
  refine T.F_need_divisor.ok sc_need_divisor (fun vs H Q E h => ?_) (fun cdv A outer s H vs Q E hr h => ?_)
  · obtain ⟨_, _, rfl, _⟩ := h; rfl
  · obtain ⟨d, m, rfl, h1, h2, h⟩ := h
    refine ⟨_, (pss_one (ps_if (pt_not (pt_val (pe_call (ok_is_from T) (hr.mono (by decide)) rfl T.g_is_from T.F_is_from.kp T.b_is_from .nil pass0 (pa_cons (pv 0) (pa_cons pe_int (pa_cons (pv 1) pa_nil)))))) (pss_one ps_never) pss_nil)), ?_⟩
    walk_at "g"
    exact h
-- @USE
local macro_rules | `(tactic| walk_at "c") => `(tactic| ((with_reducible refine use_need_divisor ?h1 ?h2 ?h3); (case h1 => omega); (case h2 => omega)))

/-! ### common -/
def sp_common : Sp := fun vs H Q _ => ∃ m n : Int, vs = [.int m, .int n] ∧ Q (.int (Int.gcd m n)) H
theorem use_common {m n : Int} {H : Hp} {Q : VK} {E : XK} (h : Q (.int (Int.gcd m n)) H) : sp_common ([.int m, .int n] ++ []) H Q E := ⟨m, n, rfl, h⟩
theorem ok_common (T : Txt K mg Z) : FnOk P w K mg base CX0 1 Z.f_common Z.d_common p_common sp_common := by
  refine T.F_common.ok sc_common (fun vs H Q E h => ?_) (fun cdv A outer s H vs Q E hr h => ?_)
  · obtain ⟨_, _, rfl, _⟩ := h; rfl
  · obtain ⟨m, n, rfl, h⟩ := h
    refine ⟨_, (pss_cons (ps_par (i := 2) (j := 3) (by rfl) sc_common.nd rfl rfl (by decide) rfl rfl (pa_cons (pe_callB call_absR (by rfl) T.n_abs boot_abs (pa_cons (pv 0) pa_nil)) (pa_cons (pe_callB call_absR (by rfl) T.n_abs boot_abs (pa_cons (pv 1) pa_nil)) pa_nil)) (by rfl))
    (pss_cons (ps_while PassesOwn.never (pt_cmpR op_gt (pv 3) pe_int (nomark _))
    (pss_one (ps_par (i := 2) (j := 3) (by rfl) sc_common.nd rfl rfl (by decide) rfl rfl (pa_cons (pv 3) (pa_cons (pe_op op_mod (pv 2) (pv 3)) pa_nil)) (by rfl))))
    (pss_one (ps_ret (pv 2))))), ?_⟩
    walk_at "g"
    refine a_while (fun i σ H' => H' = H ∧ ∃ g l : Nat, σ = [some (.int m), some (.int n), some (.int g), some (.int l)] ∧ i = l ∧ Nat.gcd g l = Int.gcd m n) ⟨_, rfl, m.natAbs, n.natAbs, rfl, rfl, rfl⟩ ?_
    rintro i σ H' ⟨rfl, g, l, rfl, rfl, hg⟩
    walk_at "g"
    refine a_it2 (fun c => ?_) (fun c => ?_)
    · refine a_turn ?_
      walk_at "g"
      have e := Nat.gcd_rec i g
      rw [Nat.gcd_comm, e, Nat.gcd_comm] at hg
      exact ⟨g % i, Nat.mod_lt _ (by omega), rfl, i, g % i, rfl, rfl, hg⟩
    · walk_at "g"
      have e : i = 0 := by omega
      rw [e, Nat.gcd_zero_right] at hg
      rw [hg]
      exact h
-- @USE
local macro_rules | `(tactic| walk_at "c") => `(tactic| with_reducible refine use_common ?_)

/-! ### power -/
def sp_power : Sp := fun vs H Q _ => ∃ b m : Int, vs = [.int b, .int m] ∧ -(2 ^ 62) ≤ m ∧ m < 2 ^ 62 ∧ -(2 ^ 64) < b ∧ b < 2 ^ 64 ∧ Q (.int (b ^ m.toNat)) H
theorem use_power {b m : Int} {H : Hp} {Q : VK} {E : XK} (h1 : -(2 ^ 62) ≤ m ∧ m < 2 ^ 62 ∧ -(2 ^ 64) < b ∧ b < 2 ^ 64) (h : Q (.int (b ^ m.toNat)) H) : sp_power ([.int b, .int m] ++ []) H Q E := ⟨_, _, rfl, h1.1, h1.2.1, h1.2.2.1, h1.2.2.2, h⟩
theorem ok_power (T : Txt K mg Z) : FnOk P w K mg base CX0 1 Z.f_power Z.d_power p_power sp_power := by
  refine T.F_power.ok sc_power (fun vs H Q E h => ?_) (fun cdv A outer s H vs Q E hr h => ?_)
  · obtain ⟨_, _, rfl, _⟩ := h; rfl
  · obtain ⟨b, m, rfl, h1, h2, h3, h4, h⟩ := h
    refine ⟨_, (pss_cons (ps_set (i := 2) sc_power.nd rfl (Or.inl rfl) pe_int)
    (pss_cons (ps_for PassesOwn.never rfl (pi_range1 rfl T.n_range (pa_cons (pv 1) pa_nil)) (pg_name (i := 3) sc_power.nd rfl (Or.inl rfl))
    (pss_one (ps_set (i := 2) sc_power.nd rfl (Or.inl rfl) (pe_op op_mulX (pv 2) (pv 0)))))
    (pss_one (ps_ret (pv 2))))), ?_⟩
    walk_at "g"
    refine for_range (fun i σ H' => H' = H ∧ ∃ v, σ = [some (.int b), some (.int m), some (.int (b ^ i)), v]) ⟨rfl, none, by rw [Int.pow_zero]; rfl⟩ ?_ ?_
    · rintro i σ H' hi ⟨rfl, v, rfl⟩
      walk_at "g"
      exact ⟨rfl, _, by rw [Int.pow_succ]; rfl⟩
    · rintro σ H' ⟨rfl, v, rfl⟩
      walk_at "g"
      exact h
-- @USE
local macro_rules | `(tactic| walk_at "c") => `(tactic| ((with_reducible refine use_power ?h1 ?h2); (case h1 => omega)))

/-! ### Trick_init -/
/-- the fields of a trick -/
def trickF (b k t : Int) : List (Str × V) := [("basis", .int b), ("many", .int k), ("factor", .int t), ("block", .int (b ^ k.toNat))]
def TrickOk (b k t : Int) : Prop := (2 ≤ b ∧ b ≤ 16) ∧ (1 ≤ k ∧ k ≤ 2) ∧ -100 ≤ t ∧ t ≤ 100
def TrickAt (Z : Adr) (H : Hp) (a : Addr) (b k t : Int) : Prop := TrickOk b k t ∧ ∃ dx, H a = some (.ins Z.c_Trick dx (trickF b k t))
theorem TrickAt.up {B H : Hp} {Lw : List (Addr × HO)} {a : Addr} {b k t : Int} (O : Own B Lw H) (h : TrickAt Z B a b k t) : TrickAt Z H a b k t := by
  obtain ⟨h1, dx, h2⟩ := h
  exact ⟨h1, dx, O.st _ _ h2⟩
theorem TrickAt.same {B H : Hp} {a : Addr} {b k t : Int} (s : Same B H) (h : TrickAt Z B a b k t) : TrickAt Z H a b k t := by
  obtain ⟨h1, dx, h2⟩ := h
  exact ⟨h1, dx, s _ _ h2⟩
theorem block_small {b k : Int} (hb : 2 ≤ b ∧ b ≤ 16) (hk : 1 ≤ k ∧ k ≤ 2) : 2 ≤ b ^ k.toNat ∧ b ^ k.toNat ≤ 256 := by
  have e : k = 1 ∨ k = 2 := by omega
  rcases e with rfl | rfl
  · have z : b ^ (1 : Int).toNat = b := by rw [show (1 : Int).toNat = 1 from rfl, Int.pow_succ, Int.pow_zero, Int.one_mul]
    rw [z]; omega
  · have z : b ^ (2 : Int).toNat = b * b := by rw [show (2 : Int).toNat = 2 from rfl, Int.pow_succ, Int.pow_succ, Int.pow_zero, Int.one_mul]
    rw [z]
    have h1 : b * 2 ≤ b * b := Int.mul_le_mul_of_nonneg_left hb.1 (by omega)
    have h2 : b * b ≤ 16 * 16 := Int.mul_le_mul hb.2 hb.2 (by omega) (by omega)
    omega
theorem get_block {H : Hp} {a : Addr} {b k t : Int} {Q : VK} (T : Txt K mg Z) (h : TrickAt Z H a b k t) (q : Q (.int (b ^ k.toNat)) H) : rFld K "block" (.ref a) H Q := by
  obtain ⟨_, dx, h⟩ := h
  refine a_getF h T.cl_Trick T.nf_Trick_block ?_ q
  unfold trickF
  rw [lk_ne (by decide +kernel), lk_ne (by decide +kernel), lk_ne (by decide +kernel), lk_eq]
theorem get_factor {H : Hp} {a : Addr} {b k t : Int} {Q : VK} (T : Txt K mg Z) (h : TrickAt Z H a b k t) (q : Q (.int t) H) : rFld K "factor" (.ref a) H Q := by
  obtain ⟨_, dx, h⟩ := h
  refine a_getF h T.cl_Trick T.nf_Trick_factor ?_ q
  unfold trickF
  rw [lk_ne (by decide +kernel), lk_ne (by decide +kernel), lk_eq]
theorem get_many {H : Hp} {a : Addr} {b k t : Int} {Q : VK} (T : Txt K mg Z) (h : TrickAt Z H a b k t) (q : Q (.int k) H) : rFld K "many" (.ref a) H Q := by
  obtain ⟨_, dx, h⟩ := h
  refine a_getF h T.cl_Trick T.nf_Trick_many ?_ q
  unfold trickF
  rw [lk_ne (by decide +kernel), lk_eq]
theorem get_basis {H : Hp} {a : Addr} {b k t : Int} {Q : VK} (T : Txt K mg Z) (h : TrickAt Z H a b k t) (q : Q (.int b) H) : rFld K "basis" (.ref a) H Q := by
  obtain ⟨_, dx, h⟩ := h
  refine a_getF h T.cl_Trick T.nf_Trick_basis ?_ q
  unfold trickF
  rw [lk_eq]
def sp_Trick_init (C : Addr) : Sp := fun vs H Q _ => ∃ (x dx : Addr) (b k t : Int), vs = [.ref x, .int b, .int k, .int t] ∧ H x = some (.ins C dx []) ∧ TrickOk b k t ∧
  ∀ H', (∀ q v, q ≠ x → H q = some v → H' q = some v) → H' x = some (.ins C dx (trickF b k t)) → Q .non H'
theorem use_Trick {B H : Hp} {Lw : List (Addr × HO)} {b k t : Int} {Q : VK} {E : XK} (O : Own B Lw H) (hk : TrickOk b k t) (h : ∀ x B' H', B x = none → Same B B' → Own B' Lw H' → TrickAt Z B' x b k t → Q (.ref x) H') : NewI Z.c_Trick (sp_Trick_init Z.c_Trick) [] E [.int b, .int k, .int t] H Q := by
  intro x dx hx hdx ne
  have O1 := Own.new (o := .own x) O hdx
  have hx1 : upd H dx (.own x) x = none := by rw [upd_ne ne.symm]; exact hx
  have O2 := Own.new (o := .ins Z.c_Trick dx []) O1 hx1
  refine ⟨x, dx, b, k, t, rfl, upd_same, hk, fun H' k1 h1 => ⟨rfl, ?_⟩⟩
  have O3 : Own B ((x, .ins Z.c_Trick dx (trickF b k t)) :: (dx, .own x) :: Lw) H' := O2.but 0 rfl k1 h1
  exact h x _ H' (O.free hx) (O3.swap.fixS.trans O3.swap.fix.fixS) O3.swap.fix.fix ⟨hk, dx, upd_same⟩
theorem ok_Trick_init (T : Txt K mg Z) : FnOk P w K mg base CX0 3 Z.f_Trick_init Z.d_Trick_init p_Trick_init (sp_Trick_init Z.c_Trick) := by
  refine T.F_Trick_init.ok sc_Trick_init (fun vs H Q E h => ?_) (fun cdv A outer s H vs Q E hr h => ?_)
  · obtain ⟨_, _, _, _, _, rfl, _⟩ := h; rfl
  · obtain ⟨x, dx, b, k, t, rfl, hx, ⟨⟨hb1, hb2⟩, ⟨hk1, hk2⟩, ht1, ht2⟩, h⟩ := h
    have O := Own.refl1 hx
    refine ⟨_, (pss_cons (ps_expr (pe_call (ok_need_base T) (hr.mono (by decide)) rfl T.g_need_base T.F_need_base.kp T.b_need_base .nil pass0 (pa_cons (pv 1) pa_nil)))
    (pss_cons (ps_if (pt_not (pt_val (pe_call (ok_is_from T) (hr.mono (by decide)) rfl T.g_is_from T.F_is_from.kp T.b_is_from .nil pass0 (pa_cons (pv 2) (pa_cons pe_int (pa_cons (pe_globI rfl T.v_MOST_TAKE) pa_nil)))))) (pss_one ps_never) pss_nil)
    (pss_cons (ps_if (pt_not (pt_val (pe_call (ok_is_from T) (hr.mono (by decide)) rfl T.g_is_from T.F_is_from.kp T.b_is_from .nil pass0 (pa_cons (pv 3) (pa_cons (pe_un un_neg (pe_globI rfl T.v_MOST_TIMES)) (pa_cons (pe_globI rfl T.v_MOST_TIMES) pa_nil)))))) (pss_one ps_never) pss_nil)
    (pss_cons (ps_fld (pv 0) (pv 1) rfl)
    (pss_cons (ps_fld (pv 0) (pv 2) rfl)
    (pss_cons (ps_fld (pv 0) (pv 3) rfl)
    (pss_one (ps_fld (pv 0) (pe_call (ok_power T) (hr.mono (by decide)) rfl T.g_power T.F_power.kp T.b_power .nil pass0 (pa_cons (pv 1) (pa_cons (pv 2) pa_nil))) rfl)))))))), ?_⟩
    have n1 : ¬ ("basis" : Str) = "many" := by decide +kernel
    have n2 : ¬ ("basis" : Str) = "factor" := by decide +kernel
    have n3 : ¬ ("many" : Str) = "factor" := by decide +kernel
    have n4 : ¬ ("basis" : Str) = "block" := by decide +kernel
    have n5 : ¬ ("many" : Str) = "block" := by decide +kernel
    have n6 : ¬ ("factor" : Str) = "block" := by decide +kernel
    walk_at "g"
    refine a_setF O 0 rfl T.cl_Trick T.nf_Trick_basis (Nat.lt_of_le_of_lt (Nat.le_refl 0) (by decide)) (fun H1 O => ?_)
    simp only [List.set, put_nil] at O
    walk_at "g"
    refine a_setF O 0 rfl T.cl_Trick T.nf_Trick_many (Nat.lt_of_le_of_lt (Nat.le_refl 1) (by decide)) (fun H2 O => ?_)
    simp only [List.set, put_ne n1, put_nil] at O
    walk_at "g"
    refine a_setF O 0 rfl T.cl_Trick T.nf_Trick_factor (Nat.lt_of_le_of_lt (Nat.le_refl 2) (by decide)) (fun H3 O => ?_)
    simp only [List.set, put_ne n2, put_ne n3, put_nil] at O
    walk_at "g"
    refine a_setF O 0 rfl T.cl_Trick T.nf_Trick_block (Nat.lt_of_le_of_lt (Nat.le_refl 3) (by decide)) (fun H4 O => ?_)
    simp only [List.set, put_ne n4, put_ne n5, put_ne n6, put_nil] at O
    exact h _ (Own.toBut O) (O.get 0 rfl)
-- @USE
local macro_rules | `(tactic| walk_at "tr") => `(tactic| first | assumption | (refine' TrickAt.up ?k1 ?k2; (case k1 => assumption); (case k2 => assumption)))
local macro_rules | `(tactic| walk_at "c") => `(tactic| first
  | ((with_reducible refine' get_block ?k1 ?k2 ?k3); (case k1 => assumption); (case k2 => walk_at "tr"))
  | ((with_reducible refine' get_factor ?k1 ?k2 ?k3); (case k1 => assumption); (case k2 => walk_at "tr"))
  | ((with_reducible refine' get_many ?k1 ?k2 ?k3); (case k1 => assumption); (case k2 => walk_at "tr"))
  | ((with_reducible refine' get_basis ?k1 ?k2 ?k3); (case k1 => assumption); (case k2 => walk_at "tr")))

/-! ### Trick_base -/
-- @NEEDS Trick_init
def sp_Trick_base (Z : Adr) : Sp := fun vs H Q _ => ∃ (a : Addr) (b k t : Int), vs = [.ref a] ∧ TrickAt Z H a b k t ∧ Q (.int b) H
theorem use_Trick_base {H : Hp} {a : Addr} {b k t : Int} {Q : VK} {E : XK} (ha : TrickAt Z H a b k t) (h : Q (.int b) H) : ∃ a' dx fs, V.ref a = .ref a' ∧ H a' = some (.ins Z.c_Trick dx fs) ∧ sp_Trick_base Z (.ref a' :: []) H Q E := by
  have ha2 := ha
  obtain ⟨_, dx, e⟩ := ha2
  exact ⟨a, dx, _, rfl, e, a, b, k, t, rfl, ha, h⟩
theorem ok_Trick_base (T : Txt K mg Z) : FnOk P w K mg base CX0 1 Z.f_Trick_base Z.d_Trick_base p_Trick_base (sp_Trick_base Z) := by
  refine T.F_Trick_base.ok sc_Trick_base (fun vs H Q E h => ?_) (fun cdv A outer s H vs Q E hr h => ?_)
  · obtain ⟨_, _, _, _, rfl, _⟩ := h; rfl
  · obtain ⟨a, b, k, t, rfl, ha, h⟩ := h
    refine ⟨_, (pss_one (ps_ret (pe_fld (pv 0) rfl))), ?_⟩
    walk_at "g"
    exact h

/-! ### Trick_take -/
-- @NEEDS Trick_init
def sp_Trick_take (Z : Adr) : Sp := fun vs H Q _ => ∃ (a : Addr) (b k t : Int), vs = [.ref a] ∧ TrickAt Z H a b k t ∧ Q (.int k) H
theorem use_Trick_take {H : Hp} {a : Addr} {b k t : Int} {Q : VK} {E : XK} (ha : TrickAt Z H a b k t) (h : Q (.int k) H) : ∃ a' dx fs, V.ref a = .ref a' ∧ H a' = some (.ins Z.c_Trick dx fs) ∧ sp_Trick_take Z (.ref a' :: []) H Q E := by
  have ha2 := ha
  obtain ⟨_, dx, e⟩ := ha2
  exact ⟨a, dx, _, rfl, e, a, b, k, t, rfl, ha, h⟩
theorem ok_Trick_take (T : Txt K mg Z) : FnOk P w K mg base CX0 1 Z.f_Trick_take Z.d_Trick_take p_Trick_take (sp_Trick_take Z) := by
  refine T.F_Trick_take.ok sc_Trick_take (fun vs H Q E h => ?_) (fun cdv A outer s H vs Q E hr h => ?_)
  · obtain ⟨_, _, _, _, rfl, _⟩ := h; rfl
  · obtain ⟨a, b, k, t, rfl, ha, h⟩ := h
    refine ⟨_, (pss_one (ps_ret (pe_fld (pv 0) rfl))), ?_⟩
    walk_at "g"
    exact h

/-! ### Trick_times -/
-- @NEEDS Trick_init
def sp_Trick_times (Z : Adr) : Sp := fun vs H Q _ => ∃ (a : Addr) (b k t : Int), vs = [.ref a] ∧ TrickAt Z H a b k t ∧ Q (.int t) H
theorem use_Trick_times {H : Hp} {a : Addr} {b k t : Int} {Q : VK} {E : XK} (ha : TrickAt Z H a b k t) (h : Q (.int t) H) : ∃ a' dx fs, V.ref a = .ref a' ∧ H a' = some (.ins Z.c_Trick dx fs) ∧ sp_Trick_times Z (.ref a' :: []) H Q E := by
  have ha2 := ha
  obtain ⟨_, dx, e⟩ := ha2
  exact ⟨a, dx, _, rfl, e, a, b, k, t, rfl, ha, h⟩
theorem ok_Trick_times (T : Txt K mg Z) : FnOk P w K mg base CX0 1 Z.f_Trick_times Z.d_Trick_times p_Trick_times (sp_Trick_times Z) := by
  refine T.F_Trick_times.ok sc_Trick_times (fun vs H Q E h => ?_) (fun cdv A outer s H vs Q E hr h => ?_)
  · obtain ⟨_, _, _, _, rfl, _⟩ := h; rfl
  · obtain ⟨a, b, k, t, rfl, ha, h⟩ := h
    refine ⟨_, (pss_one (ps_ret (pe_fld (pv 0) rfl))), ?_⟩
    walk_at "g"
    exact h

/-! ### need_trick -/
-- @NEEDS Trick_init
def sp_need_trick (Z : Adr) : Sp := fun vs H Q _ => ∃ (a : Addr) (b k t : Int), vs = [.ref a] ∧ TrickAt Z H a b k t ∧ Q .non H
theorem use_need_trick {a : Addr} {b k t : Int} {H : Hp} {Q : VK} {E : XK} (h1 : TrickAt Z H a b k t) (h : Q .non H) : sp_need_trick Z ([.ref a] ++ []) H Q E := ⟨a, b, k, t, rfl, h1, h⟩
theorem ok_need_trick (T : Txt K mg Z) : FnOk P w K mg base CX0 1 Z.f_need_trick Z.d_need_trick p_need_trick (sp_need_trick Z) := by
  refine T.F_need_trick.ok sc_need_trick (fun vs H Q E h => ?_) (fun cdv A outer s H vs Q E hr h => ?_)
  · obtain ⟨_, _, _, _, rfl, _⟩ := h; rfl
  · obtain ⟨a, b, k, t, rfl, ha, h⟩ := h
    refine ⟨_, (pss_one (ps_if (pt_not (pt_val (pe_callB (r := rIsi K) call_isi (by rfl) T.n_isinstance boot_isinstance (pa_cons (pv 0) (pa_cons (pe_glob rfl T.g_Trick (v := .ref Z.c_Trick) rfl) pa_nil))))) (pss_one ps_never) pss_nil)), ?_⟩
    walk_at "g"
    obtain ⟨_, dx, h2⟩ := ha
    refine ⟨_, _, _, _, true, rfl, .own _, .base (.ins h2 T.is_Trick.cl T.is_Trick.ha T.is_Trick.hn T.is_Trick.htk T.is_Trick.hm), T.is_Trick.me, ?_⟩
    walk_at "g"
    exact h
-- @USE
local macro_rules | `(tactic| walk_at "c") => `(tactic| ((with_reducible refine' use_need_trick ?k1 ?k2); (case k1 => walk_at "tr")))

/-! ### behind -/
-- @NEEDS Trick_init
def sp_behind (Z : Adr) : Sp := fun vs H Q _ => ∃ (a : Addr) (b k t n : Int), vs = [.ref a, .int n] ∧ TrickAt Z H a b k t ∧ Q (.int (beh b k t n)) H
theorem use_behind {a : Addr} {b k t n : Int} {H : Hp} {Q : VK} {E : XK} (h1 : TrickAt Z H a b k t) (h : Q (.int (beh b k t n)) H) : sp_behind Z ([.ref a, .int n] ++ []) H Q E := ⟨a, b, k, t, n, rfl, h1, h⟩
theorem ok_behind (T : Txt K mg Z) : FnOk P w K mg base CX0 1 Z.f_behind Z.d_behind p_behind (sp_behind Z) := by
  refine T.F_behind.ok sc_behind (fun vs H Q E h => ?_) (fun cdv A outer s H vs Q E hr h => ?_)
  · obtain ⟨_, _, _, _, _, rfl, _⟩ := h; rfl
  · obtain ⟨a, b, k, t, n, rfl, ha, h⟩ := h
    have bs := block_small ha.1.1 ha.1.2.1
    have ht := ha.1.2.2
    unfold beh at h
    refine ⟨_, (pss_one (ps_ret (pe_op op_add (pe_op op_fdivW (pv 1) (pe_fld (pv 0) rfl)) (pe_op op_mulX (pe_fld (pv 0) rfl) (pe_op op_mod (pv 1) (pe_fld (pv 0) rfl)))))), ?_⟩
    walk_at "g"
    exact h
-- @USE
local macro_rules | `(tactic| walk_at "c") => `(tactic| ((with_reducible refine' use_behind ?k1 ?k2); (case k1 => walk_at "tr")))

/-! ### trail -/
-- @NEEDS Trick_init need_trick need_number behind
/-- the number i rounds on -/
def itB (b k t n : Int) : Nat → Int
  | 0 => n
  | i + 1 => beh b k t (itB b k t n i)
def trailL (b k t n : Int) : Nat → List Int
  | 0 => [n]
  | i + 1 => trailL b k t n i ++ [itB b k t n (i + 1)]
theorem trailL_len (b k t n : Int) : ∀ i, (trailL b k t n i).length = i + 1
  | 0 => rfl
  | i + 1 => by rw [trailL, List.length_append, trailL_len b k t n i]; rfl
theorem trailL_last (b k t n : Int) : ∀ i, (trailL b k t n i)[i]? = some (itB b k t n i)
  | 0 => rfl
  | i + 1 => by
    rw [trailL, List.getElem?_append_right (by rw [trailL_len]; omega), trailL_len, Nat.sub_self]
    rfl
def sp_trail (Z : Adr) : Sp := fun vs H Q _ => ∃ (a : Addr) (b k t n m : Int), vs = [.ref a, .int n, .int m] ∧ TrickAt Z H a b k t ∧ (-(10 ^ 40) ≤ n ∧ n ≤ 10 ^ 40) ∧ (0 ≤ m ∧ m ≤ 200) ∧
  ∀ p H', Same H H' → H p = none → H' p = some (.lst ((trailL b k t n m.toNat).map V.int)) → Q (.ref p) H'
theorem use_trail {B H : Hp} {Lw : List (Addr × HO)} {a : Addr} {b k t n m : Int} {Q : VK} {E : XK} (O : Own B Lw H) (h1 : TrickAt Z H a b k t) (h2 : -(10 ^ 40) ≤ n ∧ n ≤ 10 ^ 40) (h3 : 0 ≤ m ∧ m ≤ 200)
    (h : ∀ p H', Own B ((p, .lst ((trailL b k t n m.toNat).map V.int)) :: Lw) H' → Q (.ref p) H') : sp_trail Z ([.ref a, .int n, .int m] ++ []) H Q E :=
  ⟨a, b, k, t, n, m, rfl, h1, h2, h3, fun p H' s hp hp' => h p H' (O.got s hp hp')⟩
theorem ok_trail (T : Txt K mg Z) : FnOk P w K mg base CX0 3 Z.f_trail Z.d_trail p_trail (sp_trail Z) := by
  refine T.F_trail.ok sc_trail (fun vs H Q E h => ?_) (fun cdv A outer s H vs Q E hr h => ?_)
  · obtain ⟨_, _, _, _, _, _, rfl, _⟩ := h; rfl
  · obtain ⟨a, b, k, t, n, m, rfl, ha, ⟨hn1, hn2⟩, ⟨hm1, hm2⟩, h⟩ := h
    have O := Own.refl H
    refine ⟨_, (pss_cons (ps_expr (pe_call (ok_need_trick T) (hr.mono (by decide)) rfl T.g_need_trick T.F_need_trick.kp T.b_need_trick .nil pass0 (pa_cons (pv 0) pa_nil)))
    (pss_cons (ps_expr (pe_call (ok_need_number T) (hr.mono (by decide)) rfl T.g_need_number T.F_need_number.kp T.b_need_number .nil pass0 (pa_cons (pv 1) pa_nil)))
    (pss_cons (ps_if (pt_not (pt_val (pe_call (ok_is_from T) (hr.mono (by decide)) rfl T.g_is_from T.F_is_from.kp T.b_is_from .nil pass0 (pa_cons (pv 2) (pa_cons pe_int (pa_cons (pe_globI rfl T.v_MOST_ROUNDS) pa_nil)))))) (pss_one ps_never) pss_nil)
    (pss_cons (ps_set (i := 3) sc_trail.nd rfl (Or.inl rfl) (pe_lst (pa_cons (pv 1) pa_nil)))
    (pss_cons (ps_for PassesOwn.never rfl (pi_range1 rfl T.n_range (pa_cons (pv 2) pa_nil)) (pg_name (i := 4) sc_trail.nd rfl (Or.inl rfl))
    (pss_one (ps_expr (pe_bm PySem.F.plainAttrs_list PySem.F.slot_list_append PySem.F.type_list_append mt_append (pv 3) (pa_cons (pe_call (ok_behind T) (hr.mono (by decide)) rfl T.g_behind T.F_behind.kp T.b_behind .nil pass0 (pa_cons (pv 0) (pa_cons (pe_ix (r := rIxL K) ix_list (pv 3) (pe_un un_neg pe_int) (fun _ _ => rfl)) pa_nil))) pa_nil)))))
    (pss_one (ps_ret (pv 3)))))))), ?_⟩
    walk_at "g"; walk_at "mkL"; intro p H1 hp O
    walk_at "g"
    refine for_range (fun i σ H' => ∃ v4, σ = [some (.ref a), some (.int n), some (.int m), some (.ref p), v4] ∧ Own H [(p, .lst ((trailL b k t n i).map V.int))] H') ⟨_, rfl, O⟩ ?_ ?_
    · clear O
      rintro i σ H' hi ⟨v4, rfl, O⟩
      have ha := ha.same O.st
      walk_at "g"
      refine ⟨.inl ⟨rfl, _, Own.sq O 0 rfl⟩, ?_⟩
      walk_at "g"
      have e1 : atI ((trailL b k t n i).map V.int) (-1) = some (.int (itB b k t n i)) := by
        unfold atI
        rw [List.length_map, trailL_len]
        rw [show ixN (i + 1) (-1) = some i by unfold ixN; rw [if_neg (by omega), if_pos (by omega)]; exact congrArg some (by omega)]
        show ((trailL b k t n i).map V.int)[i]? = _
        rw [List.getElem?_map, trailL_last]
        rfl
      refine a_ixL (Own.sq O 0 rfl) e1 ?_
      walk_at "g"
      refine a_app O 0 rfl (by rw [List.length_map, trailL_len]; omega) (fun H2 O => ?_)
      walk_at "g"
      refine ⟨_, rfl, ?_⟩
      rw [show (trailL b k t n (i + 1)).map V.int = (trailL b k t n i).map V.int ++ [.int (beh b k t (itB b k t n i))] by rw [trailL, List.map_append]; rfl]
      exact O
    · clear O
      rintro σ H' ⟨v4, rfl, O⟩
      walk_at "g"
      exact h p _ O.st hp (O.get 0 rfl)

/-! ### ahead -/
-- @NEEDS Trick_init need_trick need_number
theorem ahead_in {B t n x r : Int} (hB : 2 ≤ B) (h0 : 0 ≤ r) (h1 : r < B) (hx : x = (n - t * r) * B + r) (hw : 0 ≤ n - t * r) : 0 ≤ x ∧ x / B + t * (x % B) = n ∧ x % B = r := by
  have e : x % B = r := by rw [hx, Int.add_comm, Int.add_mul_emod_self_right]; exact Int.emod_eq_of_lt h0 h1
  have d : x / B = n - t * r := by rw [hx, Int.add_comm, Int.add_mul_ediv_right _ _ (by omega), Int.ediv_eq_zero_of_lt h0 h1, Int.zero_add]
  refine ⟨?_, by rw [e, d]; omega, e⟩
  have q : 0 ≤ (n - t * r) * B := Int.mul_nonneg hw (by omega)
  omega
theorem ahead_out {B t n x r : Int} (hB : 2 ≤ B) (hr : x % B = r) (hx : 0 ≤ x) (h : x / B + t * (x % B) = n) : 0 ≤ n - t * r ∧ x = (n - t * r) * B + r := by
  have d : x / B = n - t * r := by rw [← hr]; omega
  have q : 0 ≤ x / B := Int.ediv_nonneg hx (by omega)
  refine ⟨by omega, ?_⟩
  have e := Int.mul_ediv_add_emod x B
  rw [hr, d, Int.mul_comm] at e
  exact e.symm
/-- the list of the numbers ahead whose rest is below i -/
structure AheadL (B t n : Int) (i : Nat) (ms : List Int) : Prop where
  mem : ∀ x, x ∈ ms ↔ 0 ≤ x ∧ x / B + t * (x % B) = n ∧ x % B < i
  nd : ms.Nodup
  len : ms.length ≤ i
theorem aheadL_zero {B t n : Int} (hB : 2 ≤ B) : AheadL B t n 0 [] := ⟨fun x => ⟨fun h => absurd h List.not_mem_nil, fun ⟨_, _, h⟩ => absurd h (by have := Int.emod_nonneg x (show B ≠ 0 by omega); omega)⟩, List.nodup_nil, Nat.le_refl 0⟩
theorem aheadL_yes {B t n : Int} {i : Nat} {ms : List Int} (hB : 2 ≤ B) (hi : (i : Int) < B) (h : AheadL B t n i ms) (hw : 0 ≤ n - t * i) : AheadL B t n (i + 1) (ms ++ [(n - t * i) * B + i]) := by
  have q := ahead_in (B := B) (t := t) (n := n) (x := (n - t * i) * B + i) (r := i) hB (by omega) hi rfl hw
  refine ⟨fun x => ?_, ?_, by rw [List.length_append, List.length_singleton]; have := h.len; omega⟩
  · rw [List.mem_append, List.mem_singleton, h.mem]
    constructor
    · rintro (⟨h1, h2, h3⟩ | rfl)
      · exact ⟨h1, h2, by omega⟩
      · exact ⟨q.1, q.2.1, by rw [q.2.2]; omega⟩
    · rintro ⟨h1, h2, h3⟩
      by_cases c : x % B < i
      · exact .inl ⟨h1, h2, c⟩
      · exact .inr (ahead_out hB (by omega) h1 h2).2
  · refine List.nodup_append.mpr ⟨h.nd, by simp, fun a ha b hb => ?_⟩
    rw [List.mem_singleton] at hb
    rintro rfl
    have := ((h.mem a).mp ha).2.2
    rw [hb, q.2.2] at this
    omega
theorem aheadL_no {B t n : Int} {i : Nat} {ms : List Int} (hB : 2 ≤ B) (hi : (i : Int) < B) (h : AheadL B t n i ms) (hw : ¬ 0 ≤ n - t * i) : AheadL B t n (i + 1) ms := by
  refine ⟨fun x => ?_, h.nd, by have := h.len; omega⟩
  rw [h.mem]
  constructor
  · rintro ⟨h1, h2, h3⟩
    exact ⟨h1, h2, by omega⟩
  · rintro ⟨h1, h2, h3⟩
    refine ⟨h1, h2, ?_⟩
    by_cases c : x % B < i
    · exact c
    · exact absurd (ahead_out hB (r := i) (by omega) h1 h2).1 hw
/-- what ahead answers -/
structure AheadOf (b k t n : Int) (ms : List Int) : Prop where
  mem : ∀ x, x ∈ ms ↔ 0 ≤ x ∧ beh b k t x = n
  sorted : ms.Pairwise (· < ·)
  len : ms.length ≤ 256
theorem lt_of_le_nodup : ∀ {l : List Int}, l.Pairwise (· ≤ ·) → l.Nodup → l.Pairwise (· < ·)
  | [], _, _ => .nil
  | x :: l, h, n => by
    rw [List.pairwise_cons] at h
    rw [List.nodup_cons] at n
    refine List.pairwise_cons.mpr ⟨fun y hy => ?_, lt_of_le_nodup h.2 n.2⟩
    have h1 := h.1 y hy
    have h2 : x ≠ y := fun e => n.1 (e ▸ hy)
    omega
theorem aheadOf_sort {b k t n : Int} {ms ms' : List Int} {i : Nat} (hi : ∀ x : Int, x % b ^ k.toNat < i) (h2 : i ≤ 256) (h : AheadL (b ^ k.toNat) t n i ms) (hp : ms'.Perm ms) (hs : ms'.Pairwise (· ≤ ·)) : AheadOf b k t n ms' := by
  refine ⟨fun x => ?_, lt_of_le_nodup hs (hp.nodup_iff.mpr h.nd), by rw [hp.length_eq]; have := h.len; omega⟩
  rw [hp.mem_iff, h.mem]
  exact ⟨fun ⟨h1, h2, _⟩ => ⟨h1, h2⟩, fun ⟨h1, h2⟩ => ⟨h1, h2, hi x⟩⟩
def sp_ahead (Z : Adr) : Sp := fun vs H Q _ => ∃ (a : Addr) (b k t n : Int), vs = [.ref a, .int n] ∧ TrickAt Z H a b k t ∧ (-(10 ^ 40) ≤ n ∧ n ≤ 10 ^ 40) ∧
  ∀ (ms : List Int) (p : Addr) (H' : Hp), AheadOf b k t n ms → H p = none → Same H H' → H' p = some (.lst (ms.map V.int)) → Q (.ref p) H'
theorem use_ahead {B H : Hp} {Lw : List (Addr × HO)} {a : Addr} {b k t n : Int} {Q : VK} {E : XK} (O : Own B Lw H) (ha : TrickAt Z H a b k t) (h1 : -(10 ^ 40) ≤ n) (h2 : n ≤ 10 ^ 40)
    (h : ∀ (ms : List Int) (p : Addr) (H' : Hp), AheadOf b k t n ms → Own B ((p, .lst (ms.map V.int)) :: Lw) H' → Q (.ref p) H') : sp_ahead Z ([.ref a, .int n] ++ []) H Q E :=
  ⟨a, b, k, t, n, rfl, ha, ⟨h1, h2⟩, fun ms p H' hm hp s g => h ms p H' hm (O.got s hp g)⟩
theorem ok_ahead (T : Txt K mg Z) : FnOk P w K mg base CX0 3 Z.f_ahead Z.d_ahead p_ahead (sp_ahead Z) := by
  refine T.F_ahead.ok sc_ahead (fun vs H Q E h => ?_) (fun cdv A outer s H vs Q E hr h => ?_)
  · obtain ⟨_, _, _, _, _, rfl, _⟩ := h; rfl
  · obtain ⟨a, b, k, t, n, rfl, ha, ⟨hn1, hn2⟩, h⟩ := h
    have bs := block_small ha.1.1 ha.1.2.1
    have ht := ha.1.2.2
    have O := Own.refl H
    refine ⟨_, (pss_cons (ps_expr (pe_call (ok_need_trick T) (hr.mono (by decide)) rfl T.g_need_trick T.F_need_trick.kp T.b_need_trick .nil pass0 (pa_cons (pv 0) pa_nil)))
    (pss_cons (ps_expr (pe_call (ok_need_number T) (hr.mono (by decide)) rfl T.g_need_number T.F_need_number.kp T.b_need_number .nil pass0 (pa_cons (pv 1) pa_nil)))
    (pss_cons (ps_setLc (i := 2) rfl sc_ahead.nd rfl rfl (sw_true rfl rfl rfl (by decide +kernel)) (own := [("rest", 3)]) (tt := tYes) (pi_range1 rfl T.n_range (pa_cons (pe_fld (pv 0) rfl) pa_nil)) (blkOk_by (N := N_ahead) (sc := defScope s_ahead) (by decide +kernel)) (fun _ _ _ _ _ => (pg_name (i := 3) sc_ahead.nd rfl (Or.inl rfl))) (fun _ _ _ _ _ => pts_nil) (fun _ _ _ _ _ => (pe_tup (pa_cons (pe_op op_sub (pv 1) (pe_op op_mulX (pe_fldK (K := K) (pv 0) rfl) (pv 3))) (pa_cons (pv 3) pa_nil)))))
    (pss_one (ps_ret (pe_callB (r := rSortedI K) cr_sortedI (by rfl) T.n_sorted boot_sorted (pa_cons (pe_lc (own := [("whole", 4), ("rest", 3)]) rfl sc_ahead.nd (pi_list (pv 2)) (blkOk_by (N := N_ahead) (sc := defScope s_ahead) (by decide +kernel)) (fun _ _ _ _ _ => (pg_tupK (K := K) (n := 2) rfl (pgs_cons (pg_name (i := 4) sc_ahead.nd rfl (Or.inl rfl)) (pgs_cons (pg_name (i := 3) sc_ahead.nd rfl (Or.inl rfl)) pgs_nil)))) (fun _ _ _ _ _ => (pts_one (pt_cmpR op_ge (pv 4) pe_int (nomark _)))) (fun _ _ _ _ _ => (pe_op op_add (pe_op op_mulX (pv 4) (pe_fldK (K := K) (pv 0) rfl)) (pv 3)))) pa_nil))))))), ?_⟩
    walk_at "g"
    intro D hD
    replace O := Own.new (o := .lst []) O hD
    refine lc_range (fun i H' => ∃ (B : Hp) (xs : List V), Own B [(D, .lst xs)] H' ∧ Same H B ∧ xs.length = i ∧ ∀ (j : Nat) x, xs[j]? = some x → ∃ q : Addr, x = .ref q ∧ B q = some (.tup [.int (n - t * j), .int j])) ⟨H, [], O, Same.refl H, rfl, fun j x e => by simp at e⟩ ?_ ?_
    · clear O
      rintro i H' hi ⟨B, xs, O, sB, hl, hx⟩
      have ha := ha.same sB
      walk_at "g"
      refine ⟨rfl, ?_⟩
      walk_at "g"
      walk_at "mkT"; intro p H2 hp O
      walk_at "g"
      have bs2 : xs.length < sizeLine := Nat.lt_of_lt_of_le (show xs.length < 1000 by omega) (by decide)
      refine ⟨_, O.get 1 rfl, bs2, ?_⟩
      replace O := Own.put (u := .lst (xs ++ [.ref p])) O 1 rfl
      have O2 : Own _ [(D, .lst (xs ++ [.ref p]))] _ := Own.fix O
      have s2 := Own.fixS O
      refine ⟨_, _, O2, sB.trans s2, by rw [List.length_append, List.length_singleton, hl], fun j x hj => ?_⟩
      by_cases c : j < xs.length
      · rw [List.getElem?_append_left c] at hj
        obtain ⟨q, e, g⟩ := hx j x hj
        exact ⟨q, e, s2 _ _ g⟩
      · rw [List.getElem?_append_right (by omega)] at hj
        have ej : j = i := by
          by_cases z : j - xs.length = 0
          · omega
          · rw [List.getElem?_eq_none (by rw [List.length_singleton]; omega)] at hj
            cases hj
        subst ej
        rw [hl, Nat.sub_self] at hj
        refine ⟨p, (Option.some.inj hj).symm, ?_⟩
        rw [upd_same, Int.zero_add]
    · clear O
      rintro H' ⟨B, xs, O, sB, hl, hx⟩
      have ha := ha.same sB
      walk_at "g"
      refine ⟨D, rfl, ⟨xs, Own.sq O 0 rfl⟩, fun D2 hD2 => ?_⟩
      replace O := Own.new (o := .lst []) O hD2
      refine lc_list (xs := xs) (fun i H' => ∃ ms : List Int, AheadL (b ^ k.toNat) t n i ms ∧ Own B [(D2, .lst (ms.map V.int)), (D, .lst xs)] H') ⟨[], aheadL_zero bs.1, O⟩ (fun i H' _ ⟨ms, _, O⟩ => Own.sq O 1 rfl) ?_ ?_
      · clear O
        rintro i x H' hi ⟨ms, hm, O⟩
        have il : i < xs.length := by
          by_cases c : i < xs.length
          · exact c
          · rw [List.getElem?_eq_none (by omega)] at hi
            cases hi
        obtain ⟨q, rfl, hq⟩ := hx i x hi
        refine a_gtup (SqT.of (O.st _ _ hq)) rfl ?_
        walk_at "g"
        refine ⟨rfl, ?_⟩
        walk_at "g"
        refine a_it2 (fun c => ?_) (fun c => ?_)
        · walk_at "g"
          have ml := hm.len
          refine ⟨_, Own.get O 0 rfl, ?_, ?_⟩
          · rw [List.length_map]
            exact Nat.lt_of_lt_of_le (show ms.length < 1000 by omega) (by decide)
          · replace O := Own.put (u := .lst (ms.map V.int ++ [.int ((n - t * i) * b ^ k.toNat + i)])) O 0 rfl
            refine ⟨_, aheadL_yes bs.1 (by omega) hm (by omega), ?_⟩
            rw [List.map_append]
            exact O
        · walk_at "g"
          exact ⟨ms, aheadL_no bs.1 (by omega) hm (by omega), O⟩
      · clear O
        rintro H' ⟨ms, hm, O⟩
        walk_at "g"
        refine ⟨_, ms, rfl, Own.sq O 0 rfl, fun ns p hp hs hn => ?_⟩
        have O2 := Own.new (o := .lst (ns.map V.int)) O hn
        refine h ns p _ (aheadOf_sort (fun x => ?_) (by omega) hm hp hs) ?_ (sB.trans O2.toSame) (O2.get 0 rfl)
        · have := Int.emod_lt_of_pos x (show 0 < b ^ k.toNat by omega)
          omega
        · cases e : H p with
          | none => rfl
          | some v =>
            have z := O.st _ _ (sB _ _ e)
            rw [hn] at z
            cases z

/-! ### wide_of_ends -/
-- @NEEDS Trick_init
def sp_wide_of_ends (Z : Adr) : Sp := fun vs H Q _ => ∃ (a : Addr) (b k t : Int), vs = [.ref a] ∧ TrickAt Z H a b k t ∧ Q (.int (wideN b k t)) H
theorem use_wide_of_ends {a : Addr} {b k t : Int} {H : Hp} {Q : VK} {E : XK} (h1 : TrickAt Z H a b k t) (h : Q (.int (wideN b k t)) H) : sp_wide_of_ends Z ([.ref a] ++ []) H Q E := ⟨a, b, k, t, rfl, h1, h⟩
theorem ok_wide_of_ends (T : Txt K mg Z) : FnOk P w K mg base CX0 1 Z.f_wide_of_ends Z.d_wide_of_ends p_wide_of_ends (sp_wide_of_ends Z) := by
  refine T.F_wide_of_ends.ok sc_wide_of_ends (fun vs H Q E h => ?_) (fun cdv A outer s H vs Q E hr h => ?_)
  · obtain ⟨_, _, _, _, rfl, _⟩ := h; rfl
  · obtain ⟨a, b, k, t, rfl, ha, h⟩ := h
    have bs := block_small ha.1.1 ha.1.2.1
    have ht := ha.1.2.2
    refine ⟨_, (pss_one (ps_ret (pe_op op_add (pe_op op_fdivW (pe_op op_mulX (pe_op op_add pe_int (pe_op op_mulX (pe_callB call_absR (by rfl) T.n_abs boot_abs (pa_cons (pe_fld (pv 0) rfl) pa_nil)) (pe_op op_sub (pe_fld (pv 0) rfl) pe_int))) (pe_fld (pv 0) rfl)) (pe_op op_sub (pe_fld (pv 0) rfl) pe_int)) pe_int))), ?_⟩
    walk_at "g"
    exact h
-- @USE
local macro_rules | `(tactic| walk_at "c") => `(tactic| ((with_reducible refine' use_wide_of_ends ?k1 ?k2); (case k1 => walk_at "tr")))

/-! ### bound_by -/
-- @NEEDS Trick_init behind wide_of
def sp_bound_by (Z : Adr) : Sp := fun vs H Q _ => ∃ (a : Addr) (b k t : Int), vs = [.ref a] ∧ TrickAt Z H a b k t ∧ ∀ m, BoundOf b k t m → Q (.int m) H
theorem ok_bound_by (T : Txt K mg Z) : FnOk P w K mg base CX0 2 Z.f_bound_by Z.d_bound_by p_bound_by (sp_bound_by Z) := by
  refine T.F_bound_by.ok sc_bound_by (fun vs H Q E h => ?_) (fun cdv A outer s H vs Q E hr h => ?_)
  · obtain ⟨_, _, _, _, rfl, _⟩ := h; rfl
  · obtain ⟨a, b, k, t, rfl, ha, h⟩ := h
    have bs := block_small ha.1.1 ha.1.2.1
    have ht := ha.1.2.2
    have ws := wide_small (b := b) (k := k) bs ht
    refine ⟨_, (pss_cons (ps_for PassesOwn.never rfl (pi_range3 rfl T.n_range (pa_cons (pe_call (ok_wide_of_ends T) (hr.mono (by decide)) rfl T.g_wide_of_ends T.F_wide_of_ends.kp T.b_wide_of_ends .nil pass0 (pa_cons (pv 0) pa_nil)) (pa_cons pe_int (pa_cons (pe_un un_neg pe_int) pa_nil)))) (pg_name (i := 1) sc_bound_by.nd rfl (Or.inl rfl))
    (pss_one (ps_if (PW.pt (pw_or (pt_cmpR op_ge (pe_callB call_absR (by rfl) T.n_abs boot_abs (pa_cons (pe_call (ok_behind T) (hr.mono (by decide)) rfl T.g_behind T.F_behind.kp T.b_behind .nil pass0 (pa_cons (pv 0) (pa_cons (pv 1) pa_nil))) pa_nil)) (pv 1) (nomark _)) (pw_or1 (pt_cmpR op_ge (pe_callB call_absR (by rfl) T.n_abs boot_abs (pa_cons (pe_call (ok_behind T) (hr.mono (by decide)) rfl T.g_behind T.F_behind.kp T.b_behind .nil pass0 (pa_cons (pv 0) (pa_cons (pe_un un_neg (pv 1)) pa_nil))) pa_nil)) (pv 1) (nomark _))))) (pss_one (ps_ret (pv 1))) pss_nil)))
    (pss_one (ps_ret pe_int))), ?_⟩
    walk_at "g"
    refine for_rangeC (fun i σ H' => H' = H ∧ (∃ v, σ = [some (.ref a), v]) ∧ ∀ s, wideN b k t - i < s → ¬ grows b k t s) ⟨rfl, ⟨none, rfl⟩, fun s hs => grows_far bs.1 (by omega)⟩ ?_ ?_
    · rintro i σ H' hi ⟨rfl, ⟨v, rfl⟩, hno⟩
      walk_at "h"
      have e : wideN b k t + (i : Int) * -1 = wideN b k t - i := by omega
      rw [e]
      have go : ¬ grows b k t (wideN b k t - i) → ∀ s, wideN b k t - ((i + 1 : Nat) : Int) < s → ¬ grows b k t s := fun hn s hs => by
        by_cases z : s = wideN b k t - i
        · rw [z]; exact hn
        · exact hno s (by omega)
      have bo : grows b k t (wideN b k t - i) → BoundOf b k t (wideN b k t - i) := fun z => ⟨by omega, by omega, fun _ => z, fun s hs => hno s hs⟩
      generalize wideN b k t - i = m at *
      walk_at "g"
      refine a_it2 (fun c => ?_) (fun c => ?_)
      · walk_at "g"
        exact h _ (bo (.inl c))
      · walk_at "g"
        refine a_it2 (fun c2 => ?_) (fun c2 => ?_)
        · walk_at "g"
          exact h _ (bo (.inr c2))
        · walk_at "g"
          exact ⟨rfl, ⟨_, rfl⟩, go (fun z => z.elim c c2)⟩
    · rintro σ H' ⟨rfl, ⟨v, rfl⟩, hno⟩
      walk_at "g"
      exact h _ ⟨by omega, by omega, fun z => by omega, fun s hs => hno s (by omega)⟩

/-! ### ring_from -/
-- @NEEDS Trick_init behind
def sp_ring_from (K : Frag) (Z : Adr) : Sp := fun vs H Q _ => ∃ (a : Addr) (b k t n : Int) (p : Nat), vs = [.ref a, .int n] ∧ TrickAt Z H a b k t ∧ (0 < p ∧ p ≤ 102147) ∧ itr (beh b k t) n p = n ∧ (∀ i j, i < j → j < p → itr (beh b k t) n i ≠ itr (beh b k t) n j) ∧
  ∀ (q : Addr) (L : List Int) (H' : Hp), Own H [(q, .tup (L.map V.int))] H' → L.length = p → RingOf (beh b k t) n L → Q (.ref q) H'
theorem ok_ring_from (T : Txt K mg Z) : FnOk P w K mg base CX0 2 Z.f_ring_from Z.d_ring_from p_ring_from (sp_ring_from K Z) := by
  refine T.F_ring_from.ok sc_ring_from (fun vs H Q E h => ?_) (fun cdv A outer s H vs Q E hr h => ?_)
  · obtain ⟨_, _, _, _, _, _, rfl, _⟩ := h; rfl
  · obtain ⟨a, b, k, t, n, p, rfl, ha, ⟨p0, p1⟩, back, dis, h⟩ := h
    have O := Own.refl H
    refine ⟨_, (pss_cons (ps_par (i := 2) (j := 3) (by rfl) sc_ring_from.nd rfl rfl (by decide) rfl rfl (pa_cons (pe_lst (pa_cons (pv 1) pa_nil)) (pa_cons (pe_call (ok_behind T) (hr.mono (by decide)) rfl T.g_behind T.F_behind.kp T.b_behind .nil pass0 (pa_cons (pv 0) (pa_cons (pv 1) pa_nil))) pa_nil)) (by rfl))
    (pss_cons (ps_while PassesOwn.never (pt_cmpR op_ne (pv 3) (pv 1) (nomark _))
    (pss_cons (ps_expr (pe_bm PySem.F.plainAttrs_list PySem.F.slot_list_append PySem.F.type_list_append mt_append (pv 2) (pa_cons (pv 3) pa_nil)))
    (pss_one (ps_set (i := 3) sc_ring_from.nd rfl (Or.inl rfl) (pe_call (ok_behind T) (hr.mono (by decide)) rfl T.g_behind T.F_behind.kp T.b_behind .nil pass0 (pa_cons (pv 0) (pa_cons (pv 3) pa_nil)))))))
    (pss_cons (ps_set (i := 4) sc_ring_from.nd rfl (Or.inl rfl) (pe_bm PySem.F.plainAttrs_list PySem.F.slot_list_index PySem.F.type_list_index mt_index (pv 2) (pa_cons (pe_callB (r := rMin K) (cr_min rfl) (by rfl) T.n_min boot_min (pa_cons (pv 2) pa_nil)) pa_nil)))
    (pss_one (ps_ret (pe_callTy (r := rTupOf K) call_tupR (by rfl) T.n_tuple boot_tuple (pa_cons (pe_op op_cat (pe_slice (r := rSlL K) sl_list (pv 2) (po_some (pv 4)) po_none) (pe_slice (r := rSlL K) sl_list (pv 2) po_none (po_some (pv 4)))) pa_nil))))))), ?_⟩
    walk_at "g"; walk_at "mkL"; intro q H1 hq O
    walk_at "g"
    refine a_while (fun m σ H' => ∃ (j : Nat) (v4 : Option V), σ = [some (.ref a), some (.int n), some (.ref q), some (.int (itr (beh b k t) n (j + 1))), v4] ∧ Own H [(q, .lst ((itrL (beh b k t) n (j + 1)).map V.int))] H' ∧ j < p ∧ j + m = p) ⟨p, 0, _, rfl, O, p0, by omega⟩ ?_
    clear O
    rintro m σ H' ⟨j, v4, rfl, O, jp, hm⟩
    walk_at "g"
    refine a_ni2 (fun c => ?_) (fun c => ?_)
    · have ej : j + 1 = p := by
        by_cases z : j + 1 < p
        · exact absurd c.symm (dis 0 (j + 1) (by omega) z)
        · omega
      rw [ej] at O
      clear c
      walk_at "g"
      refine ⟨.inl ⟨rfl, _, Own.sq O 0 rfl⟩, ?_⟩
      walk_at "g"
      refine ⟨q, itrL (beh b k t) n p, rfl, Own.sq O 0 rfl, by rw [itrL_len]; exact p0, fun mn hmn hle => ?_⟩
      obtain ⟨i, hi, rfl⟩ := itrL_mem.mp hmn
      walk_at "g"
      refine a_indexI (Own.sq O 0 rfl) (j := i) (itrL_at hi) (fun m' z hm' hz => ?_) ?_
      · rw [itrL_at (by omega)] at hz
        cases hz
        exact dis m' i hm' hi
      walk_at "g"
      refine a_slFrom (k := i) rfl O (Own.sq O 0 rfl) (fun l1 H2 hl1 O => ?_)
      walk_at "g"
      refine a_slTo (k := i) rfl O (Own.sq O 1 rfl) (fun l2 H3 hl2 O => ?_)
      walk_at "g"
      refine a_catM O (O.get 1 rfl) (O.get 0 rfl) (by rw [List.length_map, List.length_map, List.length_drop, List.length_take, itrL_len]; omega) (fun l3 H4 hl3 O => ?_)
      rw [← List.map_append] at O
      walk_at "g"
      refine a_tupL O (Own.sq O 0 rfl) (fun l4 H5 hl4 O => ?_)
      walk_at "g"
      refine h l4 _ H5 (O.less (.cons_cons _ (List.nil_sublist _))) ?_ (ring_turn hi back dis fun j hj => hle _ (itrL_mem.mpr ⟨j, hj, rfl⟩))
      rw [List.length_append, List.length_drop, List.length_take, itrL_len]
      omega
    · refine a_turn ?_
      walk_at "g"
      refine ⟨.inl ⟨rfl, _, Own.sq O 0 rfl⟩, ?_⟩
      walk_at "g"
      refine a_app O 0 rfl (by rw [List.length_map, itrL_len]; omega) (fun H4 O => ?_)
      simp only [List.set] at O
      walk_at "g"
      refine ⟨m - 1, by omega, j + 1, _, rfl, ?_, ?_, by omega⟩
      · rw [itrL_succ n (j + 1), List.map_append]
        exact O
      · by_cases e : j + 1 = p
        · rw [e] at c
          exact absurd back c
        · omega

/-! ### rings -/
-- @NEEDS Trick_init behind need_trick bound_by ring_from
/-- rows of ints as tuples that stand -/
def rowsT (ps : List (Addr × List Int)) (B : Hp) : Prop := ∀ q ∈ ps, B q.1 = some (.tup (q.2.map V.int))
theorem rowsT.same {ps : List (Addr × List Int)} {B B' : Hp} (h : rowsT ps B) (s : Same B B') : rowsT ps B' := fun q hq => s _ _ (h q hq)
def sp_rings (Z : Adr) : Sp := fun vs H Q _ => ∃ (a : Addr) (b k t : Int), vs = [.ref a] ∧ TrickAt Z H a b k t ∧
  ∀ (p : Addr) (ps : List (Addr × List Int)) (B H' : Hp), Same H B → Own B [(p, .lst (refs ps))] H' → rowsT ps B → AllRings (beh b k t) (ps.map (·.2)) → (ps.map (·.2)).Pairwise (· ≤ ·) → ps.length ≤ 102147 → Q (.ref p) H'
theorem ok_rings (T : Txt K mg Z) : FnOk P w K mg base CX0 3 Z.f_rings Z.d_rings p_rings (sp_rings Z) := by
  refine T.F_rings.ok sc_rings (fun vs H Q E h => ?_) (fun cdv A outer s H vs Q E hr h => ?_)
  · obtain ⟨_, _, _, _, rfl, _⟩ := h; rfl
  · obtain ⟨a, b, k, t, rfl, ha, h⟩ := h
    have bs := block_small ha.1.1 ha.1.2.1
    have half := beh_half bs ha.1.2.2
    have O := Own.refl H
    refine ⟨_, (pss_cons (ps_expr (pe_call (ok_need_trick T) (hr.mono (by decide)) rfl T.g_need_trick T.F_need_trick.kp T.b_need_trick .nil pass0 (pa_cons (pv 0) pa_nil)))
    (pss_cons (ps_par3 (i := 1) (j := 2) (l := 3) (by rfl) sc_rings.nd rfl rfl rfl (by decide) (by decide) (by decide) rfl rfl rfl (pa_cons (pe_call (ok_bound_by T) (hr.mono (by decide)) rfl T.g_bound_by T.F_bound_by.kp T.b_bound_by .nil pass0 (pa_cons (pv 0) pa_nil)) (pa_cons pe_dnewK (pa_cons (pe_lst pa_nil) pa_nil))) (by rfl))
    (pss_cons (ps_for PassesOwn.never rfl (pi_range2 rfl T.n_range (pa_cons (pe_un un_neg (pv 1)) (pa_cons (pe_op op_add (pv 1) pe_int) pa_nil))) (pg_name (i := 4) sc_rings.nd rfl (Or.inl rfl))
    (pss_cons (ps_par (i := 5) (j := 6) (by rfl) sc_rings.nd rfl rfl (by decide) rfl rfl (pa_cons pe_dnewK (pa_cons (pv 4) pa_nil)) (by rfl))
    (pss_cons (ps_while PassesOwn.never (PW.pt (pw_and (pt_cmp (pc_dnotin (hu_of hr) (pv 6) (pv 2))) (pw_and1 (pt_cmp (pc_dnotin (hu_of hr) (pv 6) (pv 5))))))
    (pss_cons (ps_dput (hu_of hr) (pv 5) (pv 6) pe_bl rfl)
    (pss_one (ps_set (i := 6) sc_rings.nd rfl (Or.inl rfl) (pe_call (ok_behind T) (hr.mono (by decide)) rfl T.g_behind T.F_behind.kp T.b_behind .nil pass0 (pa_cons (pv 0) (pa_cons (pv 6) pa_nil)))))))
    (pss_cons (ps_if (pt_cmp (pc_din (hu_of hr) (pv 6) (pv 5))) (pss_one (ps_expr (pe_bm PySem.F.plainAttrs_list PySem.F.slot_list_append PySem.F.type_list_append mt_append (pv 3) (pa_cons (pe_call (ok_ring_from T) (hr.mono (by decide)) rfl T.g_ring_from T.F_ring_from.kp T.b_ring_from .nil pass0 (pa_cons (pv 0) (pa_cons (pv 6) pa_nil))) pa_nil)))) pss_nil)
    (pss_one (ps_expr (pe_bm PySem.F.plainAttrs_dict PySem.F.slot_dict_update PySem.F.type_dict_update mt_update (pv 2) (pa_cons (pv 5) pa_nil))))))))
    (pss_one (ps_ret (pe_callB (r := rSortedTs K) (cr_sortedTs hr.units) (by rfl) T.n_sorted boot_sorted (pa_cons (pv 3) pa_nil))))))), ?_⟩
    walk_at "g"
    refine ⟨a, b, k, t, rfl, ha, fun most bo => ?_⟩
    walk_at "g"
    intro Sd hSd
    replace O := Own.new (o := .dK []) O hSd
    walk_at "g"; walk_at "mkL"; intro Fd H1 hFd O
    have bn := bound_near bs ha.1.2.2 bo
    walk_at "g"
    refine for_range (fun i σ H' => ∃ (B : Hp) (ps : List (Addr × List Int)) (S : List Int) (v4 v5 v6 : Option V), σ = [some (.ref a), some (.int most), some (.ref Sd), some (.ref Fd), v4, v5, v6] ∧ Same H B ∧ Own B [(Fd, .lst (refs ps)), (Sd, trueK S)] H' ∧ rowsT ps B ∧ RingsIn (beh b k t) S (ps.map (·.2)) ∧ (∀ x ∈ S, x.natAbs ≤ 51003) ∧ (∀ j : Nat, j < i → -most + (j : Int) ∈ S) ∧ ps.length ≤ i) ⟨H, [], [], _, _, _, rfl, Same.refl H, O, fun q hq => by simp at hq, RingsIn.none, fun x hx => by simp at hx, fun j hj => by omega, Nat.zero_le _⟩ ?_ ?_
    · clear O
      rintro i σ H' hi ⟨B, ps, S, v4, v5, v6, rfl, sB, O, rT, rI, near, front, few⟩
      walk_at "g"
      intro W hW
      replace O := Own.new (o := .dK []) O hW
      walk_at "g"
      have ha' : TrickAt Z B a b k t := ha.same sB
      have n0 : (-most + (i : Int)).natAbs ≤ 51003 := by omega
      generalize hbeg : -most + (i : Int) = n at *
      refine a_while (fun m σ H' => ∃ (j : Nat), σ = [some (.ref a), some (.int most), some (.ref Sd), some (.ref Fd), some (.int n), some (.ref W), some (.int (itr (beh b k t) n j))] ∧ Own B [(W, trueK (itrL (beh b k t) n j)), (Fd, .lst (refs ps)), (Sd, trueK S)] H' ∧ (∀ i i', i < i' → i' < j → itr (beh b k t) n i ≠ itr (beh b k t) n i') ∧ (∀ i, i < j → itr (beh b k t) n i ∉ S) ∧ j + m = 102148) ⟨102148, 0, rfl, O, fun i i' h1 h2 => by omega, fun i hi => by omega, rfl⟩ ?_
      clear O
      rintro m σ H' ⟨j, rfl, O, dis, out, hm⟩
      have short := way_short half (by omega) dis
      have nearW : ∀ x ∈ S ++ itrL (beh b k t) n j, x.natAbs ≤ 51003 := fun x hx => by
        rcases List.mem_append.mp hx with hx | hx
        · exact near x hx
        · obtain ⟨y, _, rfl⟩ := itrL_mem.mp hx
          exact itr_near1 half (Nat.le_refl _) n0 y
      have neWS : Sd ≠ W := fun e => by
        have nd := O.nd
        simp [e] at nd
      walk_at "g"
      refine a_dnin ?_
      walk_at "g"
      obtain ⟨o, hg, ho⟩ := has_K (.inl (O.get 2 rfl)) (itr (beh b k t) n j)
      refine ⟨Sd, o, rfl, hg, ?_⟩
      rw [ho, trueK_keys]
      walk_at "g"
      have keepS : ∀ H2 v5, Own B [(Fd, .lst (refs ps)), (Sd, trueK (S ++ itrL (beh b k t) n j))] H2 → itr (beh b k t) n j ∈ S → ∃ (B : Hp) (ps' : List (Addr × List Int)) (S' : List Int) (v4 v5' v6 : Option V), [some (V.ref a), some (.int most), some (.ref Sd), some (.ref Fd), some (.int n), v5, some (.int (itr (beh b k t) n j))] = [some (.ref a), some (.int most), some (.ref Sd), some (.ref Fd), v4, v5', v6] ∧ Same H B ∧ Own B [(Fd, .lst (refs ps')), (Sd, trueK S')] H2 ∧ rowsT ps' B ∧ RingsIn (beh b k t) S' (ps'.map (·.2)) ∧ (∀ x ∈ S', x.natAbs ≤ 51003) ∧ (∀ j : Nat, j < i + 1 → -most + (j : Int) ∈ S') ∧ ps'.length ≤ i + 1 := fun H2 v5 O c => by
        refine ⟨B, ps, _, _, _, _, rfl, sB, O, rT, rI.join dis out c, nearW, fun y hy => ?_, by omega⟩
        by_cases e : y = i
        · rw [e, hbeg]
          by_cases e0 : j = 0
          · subst e0; exact List.mem_append_left _ c
          · exact List.mem_append_right _ (itrL_mem.mpr ⟨0, by omega, rfl⟩)
        · exact List.mem_append_left _ (front y (by omega))
      have upd1 : ∀ {H2 : Hp} {Q : VK}, Own B [(W, trueK (itrL (beh b k t) n j)), (Fd, .lst (refs ps)), (Sd, trueK S)] H2 → (∀ H3, Own B [(W, trueK (itrL (beh b k t) n j)), (Fd, .lst (refs ps)), (Sd, trueK (S ++ itrL (beh b k t) n j))] H3 → Q .non H3) → rUpdate (.ref Sd) [.ref W] H2 Q := fun O q => by
        refine a_upd O 2 0 rfl rfl neWS ?_ ?_ (fun H3 O => q H3 ?_)
        · rw [← List.map_append, trueK_keys]
          exact rI.grow dis out
        · rw [List.length_map, List.length_map, itrL_len]
          have := few_near rI.nd near
          omega
        · rw [← List.map_append] at O
          exact O
      refine a_ni2 (fun c => ?_) (fun c => ?_)
      · walk_at "g"
        refine a_din ?_
        walk_at "g"
        obtain ⟨o2, hg2, ho2⟩ := has_K (.inl (O.get 0 rfl)) (itr (beh b k t) n j)
        refine ⟨W, o2, rfl, hg2, ?_⟩
        rw [ho2, trueK_keys]
        walk_at "g"
        refine a_itF (fun z => ?_) ?_
        · obtain ⟨y, hy, e⟩ := itrL_mem.mp z
          exact out y hy (e ▸ c)
        walk_at "g"
        refine ⟨.inr (.inr (.inl ⟨rfl, .inl ⟨_, O.get 2 rfl⟩⟩)), ?_⟩
        walk_at "g"
        refine upd1 O fun H3 O => ?_
        walk_at "g"
        exact keepS _ _ O.tail c
      · walk_at "g"
        refine a_dnin ?_
        walk_at "g"
        obtain ⟨o2, hg2, ho2⟩ := has_K (.inl (O.get 0 rfl)) (itr (beh b k t) n j)
        refine ⟨W, o2, rfl, hg2, ?_⟩
        rw [ho2, trueK_keys]
        walk_at "g"
        refine a_ni2 (fun c2 => ?_) (fun c2 => ?_)
        · obtain ⟨y, hy, e⟩ := itrL_mem.mp c2
          walk_at "g"
          refine a_din ?_
          walk_at "g"
          obtain ⟨o3, hg3, ho3⟩ := has_K (.inl (O.get 0 rfl)) (itr (beh b k t) n j)
          refine ⟨W, o3, rfl, hg3, ?_⟩
          rw [ho3, trueK_keys]
          walk_at "g"
          refine ⟨.inl ⟨rfl, _, Own.sq O 1 rfl⟩, ?_⟩
          walk_at "g"
          refine ⟨a, b, k, t, _, j - y, rfl, ha'.same O.st, by omega, ?_, fun x x' h1 h2 => ?_, fun r L H2 O2 hl rg => ?_⟩
          · rw [e, ← itr_add, show y + (j - y) = j by omega, e]
          · rw [e, ← itr_add, ← itr_add]
            exact dis _ _ (by omega) (by omega)
          replace O := O.join O2
          rw [e] at rg
          have O1 : Own (upd B r (.tup (L.map V.int))) [(W, trueK (itrL (beh b k t) n j)), (Fd, .lst (refs ps)), (Sd, trueK S)] H2 := O.fix
          have sB1 : Same B (upd B r (.tup (L.map V.int))) := O.fixS
          walk_at "g"
          refine a_app O1 1 rfl (by unfold refs; rw [List.length_map]; omega) (fun H4 O4 => ?_)
          simp only [List.set] at O4
          walk_at "g"
          refine ⟨.inr (.inr (.inl ⟨rfl, .inl ⟨_, O4.get 2 rfl⟩⟩)), ?_⟩
          walk_at "g"
          refine a_upd O4 2 0 rfl rfl neWS ?_ ?_ (fun H3 O => ?_)
          · rw [← List.map_append, trueK_keys]
            exact rI.grow dis out
          · rw [List.length_map, List.length_map, itrL_len]
            have := few_near rI.nd near
            omega
          rw [← List.map_append] at O
          replace O := O.tail
          walk_at "g"
          refine ⟨_, ps ++ [(r, L)], S ++ itrL (beh b k t) n j, _, _, _, rfl, sB.trans sB1, ?_, fun q hq => ?_, ?_, nearW, fun z hz => ?_, ?_⟩
          · have e2 : refs (ps ++ [(r, L)]) = refs ps ++ [V.ref r] := by unfold refs; rw [List.map_append]; rfl
            rw [e2]
            exact O
          · rcases List.mem_append.mp hq with hq | hq
            · exact sB1 _ _ (rT q hq)
            · rw [List.mem_singleton] at hq
              rw [hq]
              exact upd_same
          · rw [List.map_append]
            exact rI.more ⟨hy, e, dis⟩ out rg
          · by_cases e3 : z = i
            · rw [e3, hbeg]
              exact List.mem_append_right _ (itrL_mem.mpr ⟨0, by omega, rfl⟩)
            · exact List.mem_append_left _ (front z (by omega))
          · rw [List.length_append]
            show ps.length + 1 ≤ i + 1
            omega
        · refine a_turn ?_
          walk_at "g"
          (try refine a_dset ?_)
          walk_at "g"
          refine a_putK O 0 rfl (by rw [trueK_keys]; exact c2) (by rw [List.length_map, itrL_len]; omega) _ (fun H3 O => ?_)
          simp only [List.set] at O
          walk_at "g"
          refine ⟨m - 1, by omega, j + 1, rfl, ?_, fun x x' h1 h2 => ?_, fun x hx => ?_, by omega⟩
          · rw [itrL_succ]
            unfold trueK
            rw [List.map_append]
            exact O
          · by_cases e : x' = j
            · subst e
              exact fun z => c2 (itrL_mem.mpr ⟨x, h1, z.symm⟩)
            · exact dis x x' h1 (by omega)
          · by_cases e : x = j
            · subst e; exact c
            · exact out x (by omega)
    · rintro σ H' ⟨B, ps, S, v4, v5, v6, rfl, sB, O, rT, rI, near, front, few⟩
      walk_at "g"
      refine ⟨Fd, ps, rfl, Own.sq O 0 rfl, fun q hq => ⟨.inl (.inl (O.st _ _ (rT q hq))), ?_⟩, fun p hp => ?_⟩
      · obtain ⟨x, _, r⟩ := (rI.rg q.2).mp (List.mem_map.mpr ⟨q, hq, rfl⟩)
        exact r.ne
      · replace O := Own.new (o := .lst (refs (ps.mergeSort leT))) O hp
        refine h p (ps.mergeSort leT) B _ sB (O.less (.cons_cons _ (List.nil_sublist _))) (fun q hq => rT q (sort_memT.mp hq)) ?_ (sort_T ps) ?_
        · refine (rI.all (C := most) (bound_less bo) fun x h1 h2 => ?_).perm ((List.mergeSort_perm ps leT).map _)
          have := front (x + most).toNat (by omega)
          rw [show -most + (((x + most).toNat : Nat) : Int) = x by omega] at this
          exact this
        · rw [List.length_mergeSort]; omega

/-! ### first_fail_judging -/
-- @NEEDS Trick_init behind
def sp_first_fail_judging (Z : Adr) : Sp := fun vs H Q _ => ∃ (a : Addr) (b k t d : Int), vs = [.ref a, .int d] ∧ TrickAt Z H a b k t ∧ (1 ≤ d ∧ d ≤ 10000) ∧ Q (optV (fstB (fls b k t d) (d * b ^ k.toNat).toNat)) H
theorem use_first_fail_judging {a : Addr} {b k t d : Int} {H : Hp} {Q : VK} {E : XK} (h1 : TrickAt Z H a b k t) (h2 : 1 ≤ d ∧ d ≤ 10000) (h : Q (optV (fstB (fls b k t d) (d * b ^ k.toNat).toNat)) H) : sp_first_fail_judging Z ([.ref a, .int d] ++ []) H Q E := ⟨a, b, k, t, d, rfl, h1, h2, h⟩
theorem ok_first_fail_judging (T : Txt K mg Z) : FnOk P w K mg base CX0 2 Z.f_first_fail_judging Z.d_first_fail_judging p_first_fail_judging (sp_first_fail_judging Z) := by
  refine T.F_first_fail_judging.ok sc_first_fail_judging (fun vs H Q E h => ?_) (fun cdv A outer s H vs Q E hr h => ?_)
  · obtain ⟨_, _, _, _, _, rfl, _⟩ := h; rfl
  · obtain ⟨a, b, k, t, d, rfl, ha, ⟨hd1, hd2⟩, h⟩ := h
    have bs := block_small ha.1.1 ha.1.2.1
    have hM0 : 0 ≤ d * b ^ k.toNat := Int.mul_nonneg (by omega) (by omega)
    have hM1 : d * b ^ k.toNat ≤ 10000 * 256 := Int.mul_le_mul hd2 bs.2 (by omega) (by omega)
    refine ⟨_, (pss_cons (ps_for PassesOwn.never rfl (pi_range1 rfl T.n_range (pa_cons (pe_op op_mulX (pv 1) (pe_fld (pv 0) rfl)) pa_nil)) (pg_name (i := 2) sc_first_fail_judging.nd rfl (Or.inl rfl))
    (pss_one (ps_if (pt_cmpR op_ne (pe_cmpR op_eq (pe_op op_mod (pv 2) (pv 1)) pe_int (nomark _)) (pe_cmpR op_eq (pe_op op_mod (pe_call (ok_behind T) (hr.mono (by decide)) rfl T.g_behind T.F_behind.kp T.b_behind .nil pass0 (pa_cons (pv 0) (pa_cons (pv 2) pa_nil))) (pv 1)) pe_int (nomark _)) (nomark _)) (pss_one (ps_ret (pv 2))) pss_nil)))
    (pss_one (ps_ret pe_non))), ?_⟩
    walk_at "g"
    generalize d * b ^ k.toNat = M at *
    walk_at "g"
    refine for_range (fun i σ H' => H' = H ∧ (∃ v, σ = [some (.ref a), some (.int d), v]) ∧ fstB (fls b k t d) i = none) ⟨rfl, ⟨none, rfl⟩, rfl⟩ ?_ ?_
    · rintro i σ H' hi ⟨rfl, ⟨v, rfl⟩, hno⟩
      walk_at "g"
      rw [Int.zero_add]
      refine a_itB (b := fls b k t d i) (fun c => ?_) (fun c => ?_)
      · walk_at "g"
        rw [fstB_hit hno c _ hi] at h
        exact h
      · walk_at "g"
        exact ⟨rfl, ⟨_, rfl⟩, fstB_no hno c⟩
    · rintro σ H' ⟨rfl, ⟨v, rfl⟩, hno⟩
      walk_at "g"
      rw [hno] at h
      exact h
-- @USE
local macro_rules | `(tactic| walk_at "c") => `(tactic| ((with_reducible refine' use_first_fail_judging ?k1 ?k2 ?k3); (case k1 => walk_at "tr"); (case k2 => omega)))

/-! ### word_of -/
def wordO (u f : Option Int) : Str := if u = none then "rest" else if f = none then "multiples" else "nothing"
def sp_word_of : Sp := fun vs H Q _ => ∃ u f : Option Int, vs = [optV u, optV f] ∧ Q (.str (wordO u f)) H
theorem use_word_of {u f : Option Int} {H : Hp} {Q : VK} {E : XK} (h : Q (.str (wordO u f)) H) : sp_word_of ([optV u, optV f] ++ []) H Q E := ⟨u, f, rfl, h⟩
theorem ok_word_of (T : Txt K mg Z) : FnOk P w K mg base CX0 1 Z.f_word_of Z.d_word_of p_word_of sp_word_of := by
  refine T.F_word_of.ok sc_word_of (fun vs H Q E h => ?_) (fun cdv A outer s H vs Q E hr h => ?_)
  · obtain ⟨_, _, rfl, _⟩ := h; rfl
  · obtain ⟨u, f, rfl, h⟩ := h
    refine ⟨_, (pss_cons (ps_if (pt_cmpR op_isN1 (pv 0) pe_non (nomark _)) (pss_one (ps_ret pe_str)) pss_nil)
    (pss_one (ps_ret (pe_ifExp (pt_cmpR op_isN1 (pv 1) pe_non (nomark _)) pe_str pe_str)))), ?_⟩
    cases u with
    | none =>
      walk_at "g"
      exact h
    | some u =>
      cases f with
      | none =>
        walk_at "g"
        exact h
      | some f =>
        walk_at "g"
        exact h
-- @USE
local macro_rules | `(tactic| walk_at "c") => `(tactic| with_reducible refine use_word_of ?_)

/-! ### multipliers -/
-- @NEEDS common
def sp_multipliers : Sp := fun vs H Q _ => ∃ b k d : Int, vs = [.int b, .int k, .int d] ∧ (2 ≤ b ∧ b ≤ 16) ∧ (1 ≤ k ∧ k ≤ 2) ∧ (1 ≤ d ∧ d ≤ 100) ∧
  ∀ p H', Same H H' → H p = none → H' p = some (.lst ((flt (fun x => goodB (b ^ k.toNat) x d) 0 d.toNat).map V.int)) → Q (.ref p) H'
theorem pow_small {b k : Int} (hb : 2 ≤ b ∧ b ≤ 16) (hk : 1 ≤ k ∧ k ≤ 2) : 2 ≤ b ^ k.toNat ∧ b ^ k.toNat ≤ 256 := by
  have e : k = 1 ∨ k = 2 := by omega
  rcases e with rfl | rfl
  · have z : b ^ (1 : Int).toNat = b := by rw [show (1 : Int).toNat = 1 from rfl, Int.pow_succ, Int.pow_zero, Int.one_mul]
    rw [z]; omega
  · have z : b ^ (2 : Int).toNat = b * b := by rw [show (2 : Int).toNat = 2 from rfl, Int.pow_succ, Int.pow_succ, Int.pow_zero, Int.one_mul]
    rw [z]
    have h1 : b * 2 ≤ b * b := Int.mul_le_mul_of_nonneg_left hb.1 (by omega)
    have h2 : b * b ≤ 16 * 16 := Int.mul_le_mul hb.2 hb.2 (by omega) (by omega)
    omega
theorem ok_multipliers (T : Txt K mg Z) : FnOk P w K mg base CX0 3 Z.f_multipliers Z.d_multipliers p_multipliers sp_multipliers := by
  refine T.F_multipliers.ok sc_multipliers (fun vs H Q E h => ?_) (fun cdv A outer s H vs Q E hr h => ?_)
  · obtain ⟨_, _, _, rfl, _⟩ := h; rfl
  · obtain ⟨b, k, d, rfl, hb, hk, hd, h⟩ := h
    have bs := pow_small hb hk
    have O := Own.refl H
    refine ⟨_, (pss_cons (ps_expr (pe_call (ok_need_base T) (hr.mono (by decide)) rfl T.g_need_base T.F_need_base.kp T.b_need_base .nil pass0 (pa_cons (pv 0) pa_nil)))
    (pss_cons (ps_if (pt_not (pt_val (pe_call (ok_is_from T) (hr.mono (by decide)) rfl T.g_is_from T.F_is_from.kp T.b_is_from .nil pass0 (pa_cons (pv 1) (pa_cons pe_int (pa_cons (pe_globI rfl T.v_MOST_TAKE) pa_nil)))))) (pss_one ps_never) pss_nil)
    (pss_cons (ps_expr (pe_call (ok_need_divisor T) (hr.mono (by decide)) rfl T.g_need_divisor T.F_need_divisor.kp T.b_need_divisor .nil pass0 (pa_cons (pv 2) (pa_cons (pe_globI rfl T.v_MOST_DIVISOR) pa_nil))))
    (pss_cons (ps_set (i := 3) sc_multipliers.nd rfl (Or.inr rfl) (pe_call (ok_power T) (hr.mono (by decide)) rfl T.g_power T.F_power.kp T.b_power .nil pass0 (pa_cons (pv 0) (pa_cons (pv 1) pa_nil))))
    (pss_cons (ps_if (pt_cmpR op_ne (pe_call (ok_common T) (hr.mono (by decide)) rfl T.g_common T.F_common.kp T.b_common .nil pass0 (pa_cons (pv 3) (pa_cons (pv 2) pa_nil))) pe_int (nomark _)) (pss_one (ps_ret (pe_lst pa_nil))) pss_nil)
    (pss_one (ps_ret (pe_lc (own := [("times", 4)]) rfl sc_multipliers.nd (pi_range1 rfl T.n_range (pa_cons (pv 2) pa_nil)) (blkOk_by (N := N_multipliers) (sc := defScope s_multipliers) (by decide +kernel)) (fun _ _ _ _ _ => (pg_name (i := 4) sc_multipliers.nd rfl (Or.inl rfl))) (fun _ _ _ _ _ => (pts_one (pt_cmpR op_eq (pe_op op_mod (pe_op op_mulX (pv 4) (pv 3)) (pv 2)) (pe_op op_mod pe_int (pv 2)) (nomark _)))) (fun _ _ _ _ _ => (pv 4)))))))))), ?_⟩
    walk_at "g"
    refine a_ni2 (fun c => ?_) (fun c => ?_)
    · walk_at "g"
      intro D hD
      replace O := Own.new (o := .lst []) O hD
      refine lc_range (fun i H' => Own H [(D, .lst ((flt (fun x => goodB (b ^ k.toNat) x d) 0 i).map V.int))] H') O ?_ ?_
      · clear O
        rintro i H' hi O
        walk_at "g"
        refine ⟨rfl, ?_⟩
        walk_at "g"
        refine a_it2 (fun c => ?_) (fun c => ?_)
        · walk_at "g"
          refine ⟨_, Own.get O 0 rfl, ?_, ?_⟩
          · rw [List.length_map]
            have := flt_len (p := fun x => goodB (b ^ k.toNat) x d) (lo := 0) i
            exact Nat.lt_of_lt_of_le (show _ < 1000 by omega) (by decide)
          · rw [flt_yes (decide_eq_true c), List.map_append]
            exact Own.put O 0 rfl
        · walk_at "g"
          rw [flt_no (decide_eq_false c)]
          exact O
      · clear O
        rintro H' O
        walk_at "g"
        exact h D H' O.st hD (O.get 0 rfl)
    · walk_at "g"; walk_at "mkL"; intro p H1 hp O
      walk_at "g"
      refine h p H1 O.st hp ?_
      rw [flt_none _ fun i hi => decide_eq_false fun z => c (by rw [good_gcd z]; rfl)]
      exact O.get 0 rfl

/-! ### divisors -/
-- @NEEDS Trick_init need_trick first_fail
def sp_divisors (Z : Adr) : Sp := fun vs H Q _ => ∃ (a : Addr) (b k t m : Int), vs = [.ref a, .int m] ∧ TrickAt Z H a b k t ∧ (1 ≤ m ∧ m ≤ 100) ∧ ∀ p H', Same H H' → H p = none → H' p = some (.lst ((flt (goodB (b ^ k.toNat) t) 1 m.toNat).map V.int)) → Q (.ref p) H'
theorem ok_divisors (T : Txt K mg Z) : FnOk P w K mg base CX0 3 Z.f_divisors Z.d_divisors p_divisors (sp_divisors Z) := by
  refine T.F_divisors.ok sc_divisors (fun vs H Q E h => ?_) (fun cdv A outer s H vs Q E hr h => ?_)
  · obtain ⟨_, _, _, _, _, rfl, _⟩ := h; rfl
  · obtain ⟨a, b, k, t, m, rfl, ha, ⟨hm1, hm2⟩, h⟩ := h
    have bs := block_small ha.1.1 ha.1.2.1
    have O := Own.refl H
    refine ⟨_, (pss_cons (ps_expr (pe_call (ok_need_trick T) (hr.mono (by decide)) rfl T.g_need_trick T.F_need_trick.kp T.b_need_trick .nil pass0 (pa_cons (pv 0) pa_nil)))
    (pss_cons (ps_if (pt_not (pt_val (pe_call (ok_is_from T) (hr.mono (by decide)) rfl T.g_is_from T.F_is_from.kp T.b_is_from .nil pass0 (pa_cons (pv 1) (pa_cons pe_int (pa_cons (pe_globI rfl T.v_MOST_DIVISOR) pa_nil)))))) (pss_one ps_never) pss_nil)
    (pss_one (ps_ret (pe_lc (own := [("d", 2)]) rfl sc_divisors.nd (pi_range2 rfl T.n_range (pa_cons pe_int (pa_cons (pe_op op_add (pv 1) pe_int) pa_nil))) (blkOk_by (N := N_divisors) (sc := defScope s_divisors) (by decide +kernel)) (fun _ _ _ _ _ => (pg_name (i := 2) sc_divisors.nd rfl (Or.inl rfl))) (fun _ _ _ _ _ => (pts_one (pt_cmpR op_isN1 (pe_call (ok_first_fail_judging T) (hr.mono (by decide)) rfl T.g_first_fail_judging T.F_first_fail_judging.kp T.b_first_fail_judging .nil pass0 (pa_cons (pv 0) (pa_cons (pv 2) pa_nil))) pe_non (nomark _)))) (fun _ _ _ _ _ => (pv 2))))))), ?_⟩
    walk_at "g"
    intro D hD
    replace O := Own.new (o := .lst []) O hD
    refine lc_range (fun i H' => Own H [(D, .lst ((flt (goodB (b ^ k.toNat) t) 1 i).map V.int))] H') O ?_ ?_
    · clear O
      rintro i H' hi O
      walk_at "g"
      refine ⟨rfl, ?_⟩
      walk_at "g"
      have fi := fls_iff (b := b) (k := k) (t := t) (d := 1 + (i : Int)) bs.1 (by omega)
      cases e : fstB (fls b k t (1 + (i : Int))) ((1 + (i : Int)) * b ^ k.toNat).toNat with
      | none =>
        walk_at "g"
        have g := fi.mp e
        refine ⟨_, Own.get O 0 rfl, ?_, ?_⟩
        · rw [List.length_map]
          have := flt_len (p := goodB (b ^ k.toNat) t) (lo := 1) i
          exact Nat.lt_of_lt_of_le (show _ < 1000 by omega) (by decide)
        · rw [flt_yes (decide_eq_true g), List.map_append]
          exact Own.put O 0 rfl
      | some x =>
        walk_at "g"
        rw [flt_no (decide_eq_false fun g => by rw [fi.mpr g] at e; cases e)]
        exact O
    · clear O
      rintro H' O
      rw [show (m + 1 - 1).toNat = m.toNat by omega] at O
      walk_at "g"
      exact h D H' O.st hD (O.get 0 rfl)

/-! ### need_tricks -/
-- @NEEDS Trick_init
/-- tricks that stand in a list or tuple -/
def TricksAt (Z : Adr) (H : Hp) (a : Addr) (l : List Tr) : Prop := ∃ xs : List V, EAt H a xs ∧ xs.length = l.length ∧ (∀ x ∈ l, TrOk x) ∧ ∀ (i : Nat) (x : V), xs[i]? = some x → ∃ (q : Addr) (y : Tr), l[i]? = some y ∧ x = .ref q ∧ TrickAt Z H q y.1 y.2.1 y.2.2
theorem TricksAt.same {B H : Hp} {a : Addr} {l : List Tr} (s : Same B H) (h : TricksAt Z B a l) : TricksAt Z H a l := by
  obtain ⟨xs, h1, h2, h3, h4⟩ := h
  refine ⟨xs, h1.up s, h2, h3, fun i x hi => ?_⟩
  obtain ⟨q, y, e1, e2, e3⟩ := h4 i x hi
  exact ⟨q, y, e1, e2, e3.same s⟩
def sp_need_tricks (Z : Adr) : Sp := fun vs H Q _ => ∃ (a : Addr) (l : List Tr), vs = [.ref a] ∧ TricksAt Z H a l ∧ (1 ≤ l.length ∧ l.length ≤ 4) ∧ ∀ H', Same H H' → Q .non H'
theorem ok_need_tricks (T : Txt K mg Z) : FnOk P w K mg base CX0 1 Z.f_need_tricks Z.d_need_tricks p_need_tricks (sp_need_tricks Z) := by
  refine T.F_need_tricks.ok sc_need_tricks (fun vs H Q E h => ?_) (fun cdv A outer s H vs Q E hr h => ?_)
  · obtain ⟨_, _, rfl, _⟩ := h; rfl
  · obtain ⟨a, l, rfl, ⟨xs, hxs, hl, hok, hx⟩, hl1, h⟩ := h
    have O := Own.refl H
    refine ⟨_, (pss_cons (ps_if (PW.pt (pw_or (pt_not (pt_val (pe_callB (r := rIsiT K) call_isiT (by rfl) T.n_isinstance boot_isinstance (pa_cons (pv 0) (pa_cons (pe_tup (pa_cons (pe_bltn (v := .ty "list") (by rfl) T.n_list boot_list rfl) (pa_cons (pe_bltn (v := .ty "tuple") (by rfl) T.n_tuple boot_tuple rfl) pa_nil))) pa_nil))))) (pw_or1 (pt_not (pt_chain op_le op_le pe_int (pe_callB (r := R.rLen K) call_lenR (by rfl) T.n_len boot_len (pa_cons (pv 0) pa_nil)) (pe_globI rfl T.v_MOST_TRICKS)))))) (pss_one ps_never) pss_nil)
    (pss_one (ps_for PassesOwn.never rfl (pi_either (pi_enum rfl T.n_enumerate (pa_cons (pv 0) pa_nil)) (pi_enumT rfl T.n_enumerate (pa_cons (pv 0) pa_nil))) (pg_tup rfl (pgs_cons (pg_name (i := 1) sc_need_tricks.nd rfl (Or.inl rfl)) (pgs_cons (pg_name (i := 2) sc_need_tricks.nd rfl (Or.inl rfl)) pgs_nil)))
    (pss_one (ps_if (pt_not (pt_val (pe_callB (r := rIsi K) call_isi (by rfl) T.n_isinstance boot_isinstance (pa_cons (pv 2) (pa_cons (pe_glob rfl T.g_Trick (v := .ref Z.c_Trick) rfl) pa_nil))))) (pss_one ps_never) pss_nil))))), ?_⟩
    walk_at "g"; walk_at "mkT"; intro tp H1 htp O
    walk_at "g"
    refine a_isiE (hxs.up O.st) (O.get 0 rfl) ?_
    walk_at "g"
    refine a_lenE (hxs.up O.st) ?_
    walk_at "g"
    refine for_enumE (hxs.up O.st) rfl (fun i σ H' => ∃ v1 v2 Lw, σ = [some (.ref a), v1, v2] ∧ Own H1 Lw H') ⟨none, none, [], rfl, Own.refl H1⟩ (fun i σ H' ⟨_, _, _, _, O⟩ => O.st) ?_ ?_
    · rintro i x T2 σ H' hi ⟨v1, v2, Lw, rfl, O2⟩ hT
      obtain ⟨q, y, e1, rfl, ta⟩ := hx i x hi
      have O2 := Own.new (o := .tup [.int (i : Nat), .ref q]) O2 hT
      walk_at "g"
      have ta := (ta.same O.st).same O2.st
      obtain ⟨_, dx, h2⟩ := ta
      refine ⟨_, _, _, _, true, rfl, .own _, .base (.ins h2 T.is_Trick.cl T.is_Trick.ha T.is_Trick.hn T.is_Trick.htk T.is_Trick.hm), T.is_Trick.me, ?_⟩
      walk_at "g"
      exact ⟨_, _, _, rfl, O2⟩
    · rintro σ H' ⟨v1, v2, Lw, rfl, O2⟩
      walk_at "g"
      exact h _ (Same.trans O.st O2.st)

/-! ### behind_all -/
-- @NEEDS Trick_init behind need_tricks
def sp_behind_all (Z : Adr) : Sp := fun vs H Q _ => ∃ (a : Addr) (l : List Tr) (n : Int), vs = [.ref a, .int n] ∧ TricksAt Z H a l ∧ Q (.int (behA l n)) H
theorem ok_behind_all (T : Txt K mg Z) : FnOk P w K mg base CX0 2 Z.f_behind_all Z.d_behind_all p_behind_all (sp_behind_all Z) := by
  refine T.F_behind_all.ok sc_behind_all (fun vs H Q E h => ?_) (fun cdv A outer s H vs Q E hr h => ?_)
  · obtain ⟨_, _, _, rfl, _⟩ := h; rfl
  · obtain ⟨a, l, n, rfl, ⟨xs, hxs, hl, hok, hx⟩, h⟩ := h
    refine ⟨_, (pss_cons (ps_for PassesOwn.never rfl (pi_either (pi_list (pv 0)) (pi_tup (pv 0))) (pg_name (i := 2) sc_behind_all.nd rfl (Or.inl rfl))
    (pss_one (ps_set (i := 1) sc_behind_all.nd rfl (Or.inl rfl) (pe_call (ok_behind T) (hr.mono (by decide)) rfl T.g_behind T.F_behind.kp T.b_behind .nil pass0 (pa_cons (pv 2) (pa_cons (pv 1) pa_nil))))))
    (pss_one (ps_ret (pv 1)))), ?_⟩
    walk_at "g"
    refine for_E hxs rfl (fun i σ H' => H' = H ∧ ∃ v, σ = [some (.ref a), some (.int (behA (l.take i) n)), v]) ⟨rfl, none, rfl⟩ (fun i σ H' ⟨e, _⟩ => by rw [e]; exact Same.refl H) ?_ ?_
    · rintro i x σ H' hi ⟨rfl, v, rfl⟩
      obtain ⟨q, y, e1, rfl, ta⟩ := hx i x hi
      walk_at "g"
      obtain ⟨hi, e⟩ := List.getElem?_eq_some_iff.mp e1
      refine ⟨rfl, some (.ref q), ?_⟩
      rw [behA_take hi, e]
      rfl
    · rintro σ H' ⟨rfl, v, rfl⟩
      walk_at "g"
      rw [hl, List.take_length]
      exact h

/-! ### chained -/
-- @NEEDS Trick_init need_tricks need_number behind_all
def sp_chained (Z : Adr) : Sp := fun vs H Q _ => ∃ (a : Addr) (l : List Tr) (n : Int), vs = [.ref a, .int n] ∧ TricksAt Z H a l ∧ (1 ≤ l.length ∧ l.length ≤ 4) ∧ -(10 ^ 40) ≤ n ∧ n ≤ 10 ^ 40 ∧ ∀ H', Same H H' → Q (.int (behA l n)) H'
theorem ok_chained (T : Txt K mg Z) : FnOk P w K mg base CX0 3 Z.f_chained Z.d_chained p_chained (sp_chained Z) := by
  refine T.F_chained.ok sc_chained (fun vs H Q E h => ?_) (fun cdv A outer s H vs Q E hr h => ?_)
  · obtain ⟨_, _, _, rfl, _⟩ := h; rfl
  · obtain ⟨a, l, n, rfl, ha, hl, hn1, hn2, h⟩ := h
    refine ⟨_, (pss_cons (ps_expr (pe_call (ok_need_tricks T) (hr.mono (by decide)) rfl T.g_need_tricks T.F_need_tricks.kp T.b_need_tricks .nil pass0 (pa_cons (pv 0) pa_nil)))
    (pss_cons (ps_expr (pe_call (ok_need_number T) (hr.mono (by decide)) rfl T.g_need_number T.F_need_number.kp T.b_need_number .nil pass0 (pa_cons (pv 1) pa_nil)))
    (pss_one (ps_ret (pe_call (ok_behind_all T) (hr.mono (by decide)) rfl T.g_behind_all T.F_behind_all.kp T.b_behind_all .nil pass0 (pa_cons (pv 0) (pa_cons (pv 1) pa_nil))))))), ?_⟩
    walk_at "g"
    refine ⟨a, l, rfl, ha, hl, fun H' s => ?_⟩
    walk_at "g"
    refine ⟨a, l, n, rfl, ha.same s, ?_⟩
    exact h _ s

/-! ### wide_of_chains -/
-- @NEEDS Trick_init need_tricks
def sp_wide_of_chains (Z : Adr) : Sp := fun vs H Q _ => ∃ (a : Addr) (l : List Tr) (xs : List V), vs = [.ref a] ∧ TricksAt Z H a l ∧ EAt H a xs ∧ wideA l ≤ 300 ∧ Q (.int (wideA l)) H
theorem tricks_list {H : Hp} {a : Addr} {l : List Tr} {xs : List V} (ha : TricksAt Z H a l) (h : EAt H a xs) : xs.length = l.length ∧ (∀ x ∈ l, TrOk x) ∧ ∀ (i : Nat) (x : V), xs[i]? = some x → ∃ (q : Addr) (y : Tr), l[i]? = some y ∧ x = .ref q ∧ TrickAt Z H q y.1 y.2.1 y.2.2 := by
  obtain ⟨ys, h1, h2, h3, h4⟩ := ha
  have e : ys = xs := by
    rcases h1 with h1 | h1 <;> rcases h with h | h <;> rw [h] at h1 <;> cases h1 <;> rfl
  subst e
  exact ⟨h2, h3, h4⟩
theorem wideA_le {l : List Tr} (h : ∀ x ∈ l, TrOk x) : ∀ i : Nat, wideA (l.take i) ≤ wideA l
  | 0 => by
    have q := wideA_pos h
    show (1 : Int) ≤ wideA l
    omega
  | i + 1 => by
    by_cases c : i + 1 ≤ l.length
    · have e : l = l.take (i + 1) ++ l.drop (i + 1) := (List.take_append_drop _ _).symm
      have w : ∀ a b : List Tr, wideA (a ++ b) = wideA a * wideA b := fun a b => by
        induction a with
        | nil => show wideA b = 1 * wideA b; rw [Int.one_mul]
        | cons x a ih => show blk x * wideA (a ++ b) = blk x * wideA a * wideA b; rw [ih, Int.mul_assoc]
      have p1 := wideA_pos (l := l.take (i + 1)) fun x hx => h x (List.mem_of_mem_take hx)
      have p2 := wideA_pos (l := l.drop (i + 1)) fun x hx => h x (List.mem_of_mem_drop hx)
      have z := w (l.take (i + 1)) (l.drop (i + 1))
      rw [← e] at z
      have q : wideA (l.take (i + 1)) * 1 ≤ wideA (l.take (i + 1)) * wideA (l.drop (i + 1)) := Int.mul_le_mul_of_nonneg_left (by omega) (by omega)
      omega
    · rw [List.take_of_length_le (by omega)]
      exact Int.le_refl _
theorem ok_wide_of_chains (T : Txt K mg Z) : FnOk P w K mg base CX0 1 Z.f_wide_of_chains Z.d_wide_of_chains p_wide_of_chains (sp_wide_of_chains Z) := by
  refine T.F_wide_of_chains.ok sc_wide_of_chains (fun vs H Q E h => ?_) (fun cdv A outer s H vs Q E hr h => ?_)
  · obtain ⟨_, _, _, rfl, _⟩ := h; rfl
  · obtain ⟨a, l, xs, rfl, ha, hxs, hw, h⟩ := h
    obtain ⟨hl, hok, hx⟩ := tricks_list ha hxs
    refine ⟨_, (pss_cons (ps_set (i := 1) sc_wide_of_chains.nd rfl (Or.inl rfl) pe_int)
    (pss_cons (ps_for PassesOwn.never rfl (pi_either (pi_list (pv 0)) (pi_tup (pv 0))) (pg_name (i := 2) sc_wide_of_chains.nd rfl (Or.inl rfl))
    (pss_one (ps_set (i := 1) sc_wide_of_chains.nd rfl (Or.inl rfl) (pe_op op_mulX (pv 1) (pe_fld (pv 2) rfl)))))
    (pss_one (ps_ret (pv 1))))), ?_⟩
    walk_at "g"
    refine for_E hxs rfl (fun i σ H' => H' = H ∧ ∃ v, σ = [some (.ref a), some (.int (wideA (l.take i))), v]) ⟨rfl, none, rfl⟩ (fun i σ H' ⟨e, _⟩ => by rw [e]; exact Same.refl H) ?_ ?_
    · rintro i x σ H' hi ⟨rfl, v, rfl⟩
      obtain ⟨q, y, e1, rfl, ta⟩ := hx i x hi
      obtain ⟨hi, e⟩ := List.getElem?_eq_some_iff.mp e1
      have w0 := wideA_pos (l := l.take i) fun x hx => hok x (List.mem_of_mem_take hx)
      have w1 := wideA_le hok i
      walk_at "g"
      refine ⟨rfl, some (.ref q), ?_⟩
      rw [wideA_take hi, e]
      rfl
    · rintro σ H' ⟨rfl, v, rfl⟩
      walk_at "g"
      rw [hl, List.take_length]
      exact h

/-! ### need_chain -/
-- @NEEDS Trick_init need_tricks need_divisor wide_of_chains
def sp_need_chain (Z : Adr) : Sp := fun vs H Q _ => ∃ (a : Addr) (l : List Tr) (xs : List V) (d : Int), vs = [.ref a, .int d] ∧ TricksAt Z H a l ∧ EAt H a xs ∧ (1 ≤ l.length ∧ l.length ≤ 4) ∧ (1 ≤ d ∧ d ≤ 30) ∧ wideA l ≤ 300 ∧ ∀ H', Same H H' → Q .non H'
theorem ok_need_chain (T : Txt K mg Z) : FnOk P w K mg base CX0 3 Z.f_need_chain Z.d_need_chain p_need_chain (sp_need_chain Z) := by
  refine T.F_need_chain.ok sc_need_chain (fun vs H Q E h => ?_) (fun cdv A outer s H vs Q E hr h => ?_)
  · obtain ⟨_, _, _, _, rfl, _⟩ := h; rfl
  · obtain ⟨a, l, xs, d, rfl, ha, hxs, hl, ⟨hd1, hd2⟩, hw, h⟩ := h
    refine ⟨_, (pss_cons (ps_expr (pe_call (ok_need_tricks T) (hr.mono (by decide)) rfl T.g_need_tricks T.F_need_tricks.kp T.b_need_tricks .nil pass0 (pa_cons (pv 0) pa_nil)))
    (pss_cons (ps_expr (pe_call (ok_need_divisor T) (hr.mono (by decide)) rfl T.g_need_divisor T.F_need_divisor.kp T.b_need_divisor .nil pass0 (pa_cons (pv 1) (pa_cons (pe_globI rfl T.v_MOST_CHAIN_DIVISOR) pa_nil))))
    (pss_one (ps_if (pt_cmpR op_gt (pe_call (ok_wide_of_chains T) (hr.mono (by decide)) rfl T.g_wide_of_chains T.F_wide_of_chains.kp T.b_wide_of_chains .nil pass0 (pa_cons (pv 0) pa_nil)) (pe_globI rfl T.v_MOST_WIDE) (nomark _)) (pss_one ps_never) pss_nil)))), ?_⟩
    walk_at "g"
    refine ⟨a, l, rfl, ha, hl, fun H' s => ?_⟩
    walk_at "g"
    refine ⟨a, l, xs, rfl, ha.same s, hxs.up s, hw, ?_⟩
    walk_at "g"
    exact h _ s

/-! ### first_fail_chains -/
-- @NEEDS Trick_init need_tricks wide_of_chains behind_all
def sp_first_fail_chains (Z : Adr) : Sp := fun vs H Q _ => ∃ (a : Addr) (l : List Tr) (xs : List V) (d : Int), vs = [.ref a, .int d] ∧ TricksAt Z H a l ∧ EAt H a xs ∧ (1 ≤ d ∧ d ≤ 30) ∧ wideA l ≤ 300 ∧ Q (optV (fstB (flsA l d) (d * wideA l).toNat)) H
theorem ok_first_fail_chains (T : Txt K mg Z) : FnOk P w K mg base CX0 3 Z.f_first_fail_chains Z.d_first_fail_chains p_first_fail_chains (sp_first_fail_chains Z) := by
  refine T.F_first_fail_chains.ok sc_first_fail_chains (fun vs H Q E h => ?_) (fun cdv A outer s H vs Q E hr h => ?_)
  · obtain ⟨_, _, _, _, rfl, _⟩ := h; rfl
  · obtain ⟨a, l, xs, d, rfl, ha, hxs, ⟨hd1, hd2⟩, hw, h⟩ := h
    have w0 := wideA_pos (tricks_list ha hxs).2.1
    have hM0 : 0 ≤ d * wideA l := Int.mul_nonneg (by omega) (by omega)
    have hM1 : d * wideA l ≤ 30 * 300 := Int.mul_le_mul hd2 hw (by omega) (by omega)
    refine ⟨_, (pss_cons (ps_for PassesOwn.never rfl (pi_range1 rfl T.n_range (pa_cons (pe_op op_mulX (pv 1) (pe_call (ok_wide_of_chains T) (hr.mono (by decide)) rfl T.g_wide_of_chains T.F_wide_of_chains.kp T.b_wide_of_chains .nil pass0 (pa_cons (pv 0) pa_nil))) pa_nil)) (pg_name (i := 2) sc_first_fail_chains.nd rfl (Or.inl rfl))
    (pss_one (ps_if (pt_cmpR op_ne (pe_cmpR op_eq (pe_op op_mod (pv 2) (pv 1)) pe_int (nomark _)) (pe_cmpR op_eq (pe_op op_mod (pe_call (ok_behind_all T) (hr.mono (by decide)) rfl T.g_behind_all T.F_behind_all.kp T.b_behind_all .nil pass0 (pa_cons (pv 0) (pa_cons (pv 2) pa_nil))) (pv 1)) pe_int (nomark _)) (nomark _)) (pss_one (ps_ret (pv 2))) pss_nil)))
    (pss_one (ps_ret pe_non))), ?_⟩
    walk_at "g"
    refine ⟨a, l, xs, rfl, ha, hxs, hw, ?_⟩
    walk_at "g"
    generalize d * wideA l = M at *
    walk_at "g"
    refine for_range (fun i σ H' => H' = H ∧ (∃ v, σ = [some (.ref a), some (.int d), v]) ∧ fstB (flsA l d) i = none) ⟨rfl, ⟨none, rfl⟩, rfl⟩ ?_ ?_
    · rintro i σ H' hi ⟨rfl, ⟨v, rfl⟩, hno⟩
      walk_at "g"
      refine ⟨a, l, _, rfl, ha, ?_⟩
      rw [Int.zero_add]
      walk_at "g"
      refine a_itB (b := flsA l d i) (fun c => ?_) (fun c => ?_)
      · walk_at "g"
        rw [fstB_hit hno c _ hi] at h
        exact h
      · walk_at "g"
        exact ⟨rfl, ⟨_, rfl⟩, fstB_no hno c⟩
    · rintro σ H' ⟨rfl, ⟨v, rfl⟩, hno⟩
      walk_at "g"
      rw [hno] at h
      exact h

/-! ### first_unlike -/
-- @NEEDS Trick_init need_tricks wide_of_chains behind_all
def sp_first_unlike (Z : Adr) : Sp := fun vs H Q _ => ∃ (a : Addr) (l : List Tr) (xs : List V) (d : Int), vs = [.ref a, .int d] ∧ TricksAt Z H a l ∧ EAt H a xs ∧ (1 ≤ d ∧ d ≤ 30) ∧ wideA l ≤ 300 ∧ Q (optV (fstB (unlA l d) (d * wideA l).toNat)) H
theorem ok_first_unlike (T : Txt K mg Z) : FnOk P w K mg base CX0 3 Z.f_first_unlike Z.d_first_unlike p_first_unlike (sp_first_unlike Z) := by
  refine T.F_first_unlike.ok sc_first_unlike (fun vs H Q E h => ?_) (fun cdv A outer s H vs Q E hr h => ?_)
  · obtain ⟨_, _, _, _, rfl, _⟩ := h; rfl
  · obtain ⟨a, l, xs, d, rfl, ha, hxs, ⟨hd1, hd2⟩, hw, h⟩ := h
    have w0 := wideA_pos (tricks_list ha hxs).2.1
    have hM0 : 0 ≤ d * wideA l := Int.mul_nonneg (by omega) (by omega)
    have hM1 : d * wideA l ≤ 30 * 300 := Int.mul_le_mul hd2 hw (by omega) (by omega)
    refine ⟨_, (pss_cons (ps_for PassesOwn.never rfl (pi_range1 rfl T.n_range (pa_cons (pe_op op_mulX (pv 1) (pe_call (ok_wide_of_chains T) (hr.mono (by decide)) rfl T.g_wide_of_chains T.F_wide_of_chains.kp T.b_wide_of_chains .nil pass0 (pa_cons (pv 0) pa_nil))) pa_nil)) (pg_name (i := 2) sc_first_unlike.nd rfl (Or.inl rfl))
    (pss_one (ps_if (pt_cmpR op_ne (pe_op op_mod (pv 2) (pv 1)) (pe_op op_mod (pe_call (ok_behind_all T) (hr.mono (by decide)) rfl T.g_behind_all T.F_behind_all.kp T.b_behind_all .nil pass0 (pa_cons (pv 0) (pa_cons (pv 2) pa_nil))) (pv 1)) (nomark _)) (pss_one (ps_ret (pv 2))) pss_nil)))
    (pss_one (ps_ret pe_non))), ?_⟩
    walk_at "g"
    refine ⟨a, l, xs, rfl, ha, hxs, hw, ?_⟩
    walk_at "g"
    generalize d * wideA l = M at *
    walk_at "g"
    refine for_range (fun i σ H' => H' = H ∧ (∃ v, σ = [some (.ref a), some (.int d), v]) ∧ fstB (unlA l d) i = none) ⟨rfl, ⟨none, rfl⟩, rfl⟩ ?_ ?_
    · rintro i σ H' hi ⟨rfl, ⟨v, rfl⟩, hno⟩
      walk_at "g"
      refine ⟨a, l, _, rfl, ha, ?_⟩
      rw [Int.zero_add]
      walk_at "g"
      refine a_itB (b := unlA l d i) (fun c => ?_) (fun c => ?_)
      · walk_at "g"
        rw [fstB_hit hno c _ hi] at h
        exact h
      · walk_at "g"
        exact ⟨rfl, ⟨_, rfl⟩, fstB_no hno c⟩
    · rintro σ H' ⟨rfl, ⟨v, rfl⟩, hno⟩
      walk_at "g"
      rw [hno] at h
      exact h

/-! ### chain_tells -/
-- @NEEDS Trick_init need_tricks need_chain first_fail_chains first_unlike word_of
def sp_chain_tells (Z : Adr) : Sp := fun vs H Q _ => ∃ (a : Addr) (l : List Tr) (xs : List V) (d : Int), vs = [.ref a, .int d] ∧ TricksAt Z H a l ∧ EAt H a xs ∧ (1 ≤ l.length ∧ l.length ≤ 4) ∧ (1 ≤ d ∧ d ≤ 30) ∧ wideA l ≤ 300 ∧ ∀ H', Same H H' → Q (.str (wordO (fstB (unlA l d) (d * wideA l).toNat) (fstB (flsA l d) (d * wideA l).toNat))) H'
theorem ok_chain_tells (T : Txt K mg Z) : FnOk P w K mg base CX0 4 Z.f_chain_tells Z.d_chain_tells p_chain_tells (sp_chain_tells Z) := by
  refine T.F_chain_tells.ok sc_chain_tells (fun vs H Q E h => ?_) (fun cdv A outer s H vs Q E hr h => ?_)
  · obtain ⟨_, _, _, _, rfl, _⟩ := h; rfl
  · obtain ⟨a, l, xs, d, rfl, ha, hxs, hl, hd, hw, h⟩ := h
    refine ⟨_, (pss_cons (ps_expr (pe_call (ok_need_chain T) (hr.mono (by decide)) rfl T.g_need_chain T.F_need_chain.kp T.b_need_chain .nil pass0 (pa_cons (pv 0) (pa_cons (pv 1) pa_nil))))
    (pss_one (ps_ret (pe_call (ok_word_of T) (hr.mono (by decide)) rfl T.g_word_of T.F_word_of.kp T.b_word_of .nil pass0 (pa_cons (pe_call (ok_first_unlike T) (hr.mono (by decide)) rfl T.g_first_unlike T.F_first_unlike.kp T.b_first_unlike .nil pass0 (pa_cons (pv 0) (pa_cons (pv 1) pa_nil))) (pa_cons (pe_call (ok_first_fail_chains T) (hr.mono (by decide)) rfl T.g_first_fail_chains T.F_first_fail_chains.kp T.b_first_fail_chains .nil pass0 (pa_cons (pv 0) (pa_cons (pv 1) pa_nil))) pa_nil)))))), ?_⟩
    walk_at "g"
    refine ⟨a, l, xs, d, rfl, ha, hxs, hl, hd, hw, fun H' s => ?_⟩
    walk_at "g"
    refine ⟨a, l, xs, d, rfl, ha.same s, hxs.up s, hd, hw, ?_⟩
    walk_at "g"
    refine ⟨a, l, xs, d, rfl, ha.same s, hxs.up s, hd, hw, ?_⟩
    walk_at "g"
    exact h _ s

/-! ### need_length -/
def sp_need_length : Sp := fun vs H Q _ => ∃ d : Int, vs = [.int d] ∧ 1 ≤ d ∧ d ≤ 40 ∧ Q .non H
theorem use_need_length {d : Int} {H : Hp} {Q : VK} {E : XK} (h1 : 1 ≤ d) (h2 : d ≤ 40) (h : Q .non H) : sp_need_length ([.int d] ++ []) H Q E := ⟨_, rfl, h1, h2, h⟩
theorem ok_need_length (T : Txt K mg Z) : FnOk P w K mg base CX0 2 Z.f_need_length Z.d_need_length p_need_length sp_need_length := by
  refine T.F_need_length.ok sc_need_length (fun vs H Q E h => ?_) (fun cdv A outer s H vs Q E hr h => ?_)
  · obtain ⟨_, rfl, _⟩ := h; rfl
  · obtain ⟨d, rfl, h1, h2, h⟩ := h
    refine ⟨_, (pss_one (ps_if (pt_not (pt_val (pe_call (ok_is_from T) (hr.mono (by decide)) rfl T.g_is_from T.F_is_from.kp T.b_is_from .nil pass0 (pa_cons (pv 0) (pa_cons pe_int (pa_cons (pe_globI rfl T.v_MOST_LENGTH) pa_nil)))))) (pss_one ps_never) pss_nil)), ?_⟩
    walk_at "g"
    exact h
-- @USE
local macro_rules | `(tactic| walk_at "c") => `(tactic| ((with_reducible refine use_need_length ?h1 ?h2 ?h3); (case h1 => omega); (case h2 => omega)))

/-! ### slip_by -/
/-- the least difference at a place -/
def slipIn (b d f : Int) (place : Nat) : Option Int := (List.range (b - 1).toNat).findSome? fun (j : Nat) => if (1 + (j : Int)) * f * b ^ place % d = 0 then some (1 + (j : Int)) else none
def slipBy (b d : Int) (len : Nat) (f : Int) : Option (Nat × Int) := (List.range len).findSome? fun p => (slipIn b d f p).map fun x => (p, x)
/-- None, or a new pair -/
def OptPair (o : Option (Nat × Int)) (H : Hp) (Q : VK) : Prop := (o = none → Q .non H) ∧ ∀ (pl : Nat) (ls : Int), o = some (pl, ls) → ∀ p, H p = none → Q (.ref p) (upd H p (.tup [.int pl, .int ls]))
theorem use_pair {B H : Hp} {Lw : List (Addr × HO)} {o : Option (Nat × Int)} {Q : VK} (O : Own B Lw H) (h0 : o = none → Q .non H)
    (h1 : ∀ (pl : Nat) (ls : Int), o = some (pl, ls) → ∀ p H', Own B ((p, .tup [.int pl, .int ls]) :: Lw) H' → Q (.ref p) H') : OptPair o H Q := ⟨h0, fun pl ls e p hp => h1 pl ls e p _ (O.new hp)⟩
/-- the value of an optional pair that stands in the base -/
def PairV (o : Option (Nat × Int)) (v : V) (B : Hp) : Prop := (o = none ∧ v = .non) ∨ ∃ (pl : Nat) (ls : Int) (q : Addr), o = some (pl, ls) ∧ v = .ref q ∧ B q = some (.tup [.int pl, .int ls])
theorem use_pairJ {B H : Hp} {Lw : List (Addr × HO)} {o : Option (Nat × Int)} {Q : VK} (O : Own B Lw H) (k : ∀ (v : V) (B' H' : Hp), Same B B' → Own B' Lw H' → PairV o v B' → Q v H') : OptPair o H Q := by
  refine use_pair O (fun e => k _ B H (Same.refl B) O (.inl ⟨e, rfl⟩)) (fun pl ls e p H' O => ?_)
  exact k _ _ H' (Own.fixS O) (Own.fix O) (.inr ⟨pl, ls, p, e, rfl, upd_same⟩)
def sp_slip_by : Sp := fun vs H Q _ => ∃ b d len f : Int, vs = [.int b, .int d, .int len, .int f] ∧ (2 ≤ b ∧ b ≤ 16) ∧ 0 < d ∧ (-100 ≤ len ∧ len ≤ 100) ∧ f.natAbs < 2 ^ 400 ∧ OptPair (slipBy b d len.toNat f) H Q
theorem ok_slip_by (T : Txt K mg Z) : FnOk P w K mg base CX0 2 Z.f_slip_by Z.d_slip_by p_slip_by sp_slip_by := by
  refine T.F_slip_by.ok sc_slip_by (fun vs H Q E h => ?_) (fun cdv A outer s H vs Q E hr h => ?_)
  · obtain ⟨_, _, _, _, rfl, _⟩ := h; rfl
  · obtain ⟨b, d, len, f, rfl, ⟨hb1, hb2⟩, hd, ⟨hl1, hl2⟩, hf, ⟨hn, hs⟩⟩ := h
    refine ⟨_, (pss_cons (ps_for PassesOwn.never rfl (pi_range1 rfl T.n_range (pa_cons (pv 2) pa_nil)) (pg_name (i := 4) sc_slip_by.nd rfl (Or.inl rfl))
    (pss_one (ps_for PassesOwn.never rfl (pi_range2 rfl T.n_range (pa_cons pe_int (pa_cons (pv 0) pa_nil))) (pg_name (i := 5) sc_slip_by.nd rfl (Or.inl rfl))
    (pss_one (ps_if (pt_cmpR op_eq (pe_op op_mod (pe_op op_mulX (pe_op op_mulX (pv 5) (pv 3)) (pe_call (ok_power T) (hr.mono (by decide)) rfl T.g_power T.F_power.kp T.b_power .nil pass0 (pa_cons (pv 0) (pa_cons (pv 4) pa_nil)))) (pv 1)) pe_int (nomark _)) (pss_one (ps_ret (pe_tup (pa_cons (pv 4) (pa_cons (pv 5) pa_nil))))) pss_nil)))))
    (pss_one (ps_ret pe_non))), ?_⟩
    walk_at "g"
    refine for_range (fun i σ H' => H' = H ∧ (∃ v w, σ = [some (.int b), some (.int d), some (.int len), some (.int f), v, w]) ∧ (List.range i).findSome? (fun p => (slipIn b d f p).map fun x => (p, x)) = none) ⟨rfl, ⟨none, none, rfl⟩, rfl⟩ ?_ ?_
    · rintro i σ H' hi ⟨rfl, ⟨v, w, rfl⟩, hno⟩
      walk_at "g"
      refine for_range (fun j σ H'' => H'' = H' ∧ (∃ w, σ = [some (.int b), some (.int d), some (.int len), some (.int f), some (.int i), w]) ∧ (List.range j).findSome? (fun (j : Nat) => if (1 + (j : Int)) * f * b ^ i % d = 0 then some (1 + (j : Int)) else none) = none) ⟨rfl, ⟨w, by rw [Int.zero_add]; rfl⟩, rfl⟩ ?_ ?_
      · rintro j σ H'' hj ⟨rfl, ⟨w, rfl⟩, hno2⟩
        walk_at "g"
        have e : ((i : Int)).toNat = i := by omega
        rw [e]
        refine a_I (mx_w 500 500 ?_ ?_) ?_
        · rw [Int.natAbs_mul]
          have e1 : (1 + (j : Int)).natAbs < 2 ^ 5 := by omega
          have e2 : (2 : Nat) ^ 500 = 2 ^ 95 * (2 ^ 5 * 2 ^ 400) := by decide
          rw [e2]
          have e3 := Nat.mul_lt_mul'' e1 hf
          have e4 : (1 : Nat) ≤ 2 ^ 95 := by decide
          exact Nat.lt_of_lt_of_le e3 (Nat.le_mul_of_pos_left _ e4)
        · exact Nat.lt_of_lt_of_le (pow_bits (m := 100) (by omega) hb2 (by omega)) (Nat.pow_le_pow_right (by decide) (by decide))
        · walk_at "g"
          refine a_it2 (fun c => ?_) (fun c => ?_)
          · walk_at "g"
            refine ⟨(by show 2 ≤ sizeLine; decide), fun p hp => hs i (1 + (j : Int)) ?_ p hp⟩
            refine find_hit hno ?_ _ (by omega)
            have q : slipIn b d f i = some (1 + (j : Int)) := find_hit hno2 (if_pos c) _ (by omega)
            rw [q]; rfl
          · walk_at "g"
            exact ⟨rfl, ⟨_, rfl⟩, find_more hno2 (if_neg c)⟩
      · rintro σ H'' ⟨rfl, ⟨w, rfl⟩, hno2⟩
        refine ⟨rfl, ⟨_, _, rfl⟩, find_more hno ?_⟩
        have q : slipIn b d f i = none := hno2
        rw [q]; rfl
    · rintro σ H' ⟨rfl, ⟨v, w, rfl⟩, hno⟩
      walk_at "g"
      exact hn hno

/-! ### good_divisors -/
/-- the test that good_divisors makes of i + 1 -/
def goodAt (b : Int) (len : Nat) (i : Nat) : Bool := (slipBy b (1 + (i : Int)) len 1).isNone && (slipBy b (1 + (i : Int)) (len - 1) (b - 1)).isNone
def goods (b : Int) (len n : Nat) : List Int := ((List.range n).filter (goodAt b len)).map fun (i : Nat) => 1 + (i : Int)
theorem goods_no {b : Int} {len i : Nat} (h : goodAt b len i = false) : goods b len (i + 1) = goods b len i := by
  unfold goods
  rw [List.range_succ, List.filter_append]
  simp [h]
theorem goods_yes {b : Int} {len i : Nat} (h : goodAt b len i = true) : goods b len (i + 1) = goods b len i ++ [1 + (i : Int)] := by
  unfold goods
  rw [List.range_succ, List.filter_append]
  simp [h]
theorem goods_len (b : Int) (len : Nat) (n : Nat) : (goods b len n).length ≤ n := by
  unfold goods
  rw [List.length_map]
  exact Nat.le_trans (List.length_filter_le _ _) (Nat.le_of_eq List.length_range)
def sp_good_divisors : Sp := fun vs H Q _ => ∃ b len most : Int, vs = [.int b, .int len, .int most] ∧ (2 ≤ b ∧ b ≤ 16) ∧ (1 ≤ len ∧ len ≤ 40) ∧ (1 ≤ most ∧ most ≤ 100) ∧
  ∀ p H', H p = none → Same H H' → H' p = some (.lst ((goods b len.toNat most.toNat).map V.int)) → Q (.ref p) H'
theorem ok_good_divisors (T : Txt K mg Z) : FnOk P w K mg base CX0 3 Z.f_good_divisors Z.d_good_divisors p_good_divisors sp_good_divisors := by
  refine T.F_good_divisors.ok sc_good_divisors (fun vs H Q E h => ?_) (fun cdv A outer s H vs Q E hr h => ?_)
  · obtain ⟨_, _, _, rfl, _⟩ := h; rfl
  · obtain ⟨b, len, most, rfl, ⟨hb1, hb2⟩, ⟨hl1, hl2⟩, ⟨hm1, hm2⟩, h⟩ := h
    have O := Own.refl H
    refine ⟨_, (pss_cons (ps_expr (pe_call (ok_need_base T) (hr.mono (by decide)) rfl T.g_need_base T.F_need_base.kp T.b_need_base .nil pass0 (pa_cons (pv 0) pa_nil)))
    (pss_cons (ps_expr (pe_call (ok_need_length T) (hr.mono (by decide)) rfl T.g_need_length T.F_need_length.kp T.b_need_length .nil pass0 (pa_cons (pv 1) pa_nil)))
    (pss_cons (ps_if (pt_not (pt_val (pe_call (ok_is_from T) (hr.mono (by decide)) rfl T.g_is_from T.F_is_from.kp T.b_is_from .nil pass0 (pa_cons (pv 2) (pa_cons pe_int (pa_cons (pe_globI rfl T.v_MOST_DIVISOR) pa_nil)))))) (pss_one ps_never) pss_nil)
    (pss_cons (ps_set (i := 3) sc_good_divisors.nd rfl (Or.inl rfl) (pe_lst pa_nil))
    (pss_cons (ps_for PassesOwn.never rfl (pi_range2 rfl T.n_range (pa_cons pe_int (pa_cons (pe_op op_add (pv 2) pe_int) pa_nil))) (pg_name (i := 4) sc_good_divisors.nd rfl (Or.inl rfl))
    (pss_one (ps_if (PW.pt (pw_and (pt_cmpR op_isN1 (pe_call (ok_slip_by T) (hr.mono (by decide)) rfl T.g_slip_by T.F_slip_by.kp T.b_slip_by .nil pass0 (pa_cons (pv 0) (pa_cons (pv 4) (pa_cons (pv 1) (pa_cons pe_int pa_nil))))) pe_non (nomark _)) (pw_and1 (pt_cmpR op_isN1 (pe_call (ok_slip_by T) (hr.mono (by decide)) rfl T.g_slip_by T.F_slip_by.kp T.b_slip_by .nil pass0 (pa_cons (pv 0) (pa_cons (pv 4) (pa_cons (pe_op op_sub (pv 1) pe_int) (pa_cons (pe_op op_sub (pv 0) pe_int) pa_nil))))) pe_non (nomark _))))) (pss_one (ps_expr (pe_bm PySem.F.plainAttrs_list PySem.F.slot_list_append PySem.F.type_list_append mt_append (pv 3) (pa_cons (pv 4) pa_nil)))) pss_nil)))
    (pss_one (ps_ret (pv 3)))))))), ?_⟩
    walk_at "g"
    walk_at "mkL"; intro p H1 hp O
    walk_at "g"
    refine for_range (fun i σ H' => ∃ v Lw, σ = [some (.int b), some (.int len), some (.int most), some (.ref p), v] ∧ Own H ((p, .lst ((goods b len.toNat i).map V.int)) :: Lw) H') ⟨none, [], rfl, O⟩ ?_ ?_
    · rintro i σ H' hi ⟨v, Lw, rfl, O⟩
      walk_at "g"
      refine ⟨_, _, _, _, rfl, ⟨hb1, hb2⟩, by omega, by omega, by decide, use_pair O (fun e1 => ?_) (fun pl ls e1 q H2 O => ?_)⟩
      · walk_at "g"
        refine ⟨_, _, _, _, rfl, ⟨hb1, hb2⟩, by omega, by omega, (Nat.lt_of_lt_of_le (by omega : _ < 2 ^ 10) (by decide)), use_pair O (fun e2 => ?_) (fun pl ls e2 q H2 O => ?_)⟩
        · walk_at "g"
          refine ⟨.inl ⟨rfl, _, Own.sq O 0 rfl⟩, ?_⟩
          walk_at "g"
          refine a_app O 0 rfl ?_ (fun H2 O => ?_)
          · rw [List.length_map]
            exact Nat.le_trans (goods_len _ _ _) (by omega)
          · refine ⟨_, Lw, rfl, ?_⟩
            have el : (len - 1).toNat = len.toNat - 1 := by omega
            rw [el] at e2
            have g : goodAt b len.toNat i = true := by
              unfold goodAt
              rw [e1, e2]; rfl
            rw [goods_yes g, List.map_append]
            exact O
        · walk_at "g"
          refine ⟨_, Lw, rfl, ?_⟩
          have el : (len - 1).toNat = len.toNat - 1 := by omega
          rw [el] at e2
          have g : goodAt b len.toNat i = false := by
            unfold goodAt
            rw [e1, e2]; rfl
          rw [goods_no g]
          exact O.tail
      · walk_at "g"
        refine ⟨_, Lw, rfl, ?_⟩
        have g : goodAt b len.toNat i = false := by
          unfold goodAt
          rw [e1]; rfl
        rw [goods_no g]
        exact O.tail
    · rintro σ H' ⟨v, Lw, rfl, O⟩
      walk_at "g"
      have em : (most + 1 - 1).toNat = most.toNat := by omega
      rw [em] at O
      exact h p H' hp O.toSame (O.get 0 rfl)

/-! ### Reckoner_init -/
/-- the fields of a reckoner -/
def reckF (l t : Addr) : List (Str × V) := [("stood", .ref l), ("deeds", .ref t)]
def sp_Reckoner_init (C : Addr) : Sp := fun vs H Q _ => ∃ (x dx : Addr) (n : Int), vs = [.ref x, .int n] ∧ H x = some (.ins C dx []) ∧ (-(10 ^ 40) ≤ n ∧ n ≤ 10 ^ 40) ∧
  ∀ H' l t, (∀ q v, q ≠ x → H q = some v → H' q = some v) → H l = none → H t = none → l ≠ t → H' x = some (.ins C dx (reckF l t)) → H' l = some (.lst [.int n]) → H' t = some (.tup []) → Q .non H'
theorem use_Reckoner {B H : Hp} {Lw : List (Addr × HO)} {n : Int} {Q : VK} {E : XK} (O : Own B Lw H) (hn : -(10 ^ 40) ≤ n ∧ n ≤ 10 ^ 40)
    (h : ∀ x dx l t H', Own B ((x, .ins Z.c_Reckoner dx (reckF l t)) :: (l, .lst [.int n]) :: (t, .tup []) :: (dx, .own x) :: Lw) H' → Q (.ref x) H') : NewI Z.c_Reckoner (sp_Reckoner_init Z.c_Reckoner) [] E [.int n] H Q := by
  intro x dx hx hdx ne
  have O1 := Own.new (o := .own x) O hdx
  have hx1 : upd H dx (.own x) x = none := by rw [upd_ne ne.symm]; exact hx
  have O2 := Own.new (o := .ins Z.c_Reckoner dx []) O1 hx1
  refine ⟨x, dx, n, rfl, upd_same, hn, fun H' l t k hl ht lt h1 h2 h3 => ⟨rfl, ?_⟩⟩
  have O3 : Own B ((x, .ins Z.c_Reckoner dx (reckF l t)) :: (dx, .own x) :: Lw) H' := O2.but 0 rfl k h1
  have nd := O3.nd
  have hlB : B l = none := O2.free hl
  have htB : B t = none := O2.free ht
  have outl := O2.out hl
  have outt := O2.out ht
  refine h x dx l t H' ⟨O3.st, fun q hq => ?_, fun q hq => ?_, ?_⟩
  · simp only [List.mem_cons] at hq
    rcases hq with rfl | rfl | rfl | rfl | hq
    · exact h1
    · exact h2
    · exact h3
    · exact O3.ow _ (List.mem_cons_of_mem _ List.mem_cons_self)
    · exact O3.ow _ (List.mem_cons_of_mem _ (List.mem_cons_of_mem _ hq))
  · simp only [List.mem_cons] at hq
    rcases hq with rfl | rfl | rfl | rfl | hq
    · exact O3.no _ List.mem_cons_self
    · exact hlB
    · exact htB
    · exact O3.no _ (List.mem_cons_of_mem _ List.mem_cons_self)
    · exact O3.no _ (List.mem_cons_of_mem _ (List.mem_cons_of_mem _ hq))
  · have nl : l ∉ ((x, HO.ins Z.c_Reckoner dx (reckF l t)) :: (dx, HO.own x) :: Lw).map (·.1) := fun z => by
      obtain ⟨q, hq, e⟩ := List.mem_map.mp z
      rcases List.mem_cons.mp hq with rfl | hq
      · exact outl (x, _) List.mem_cons_self e
      · exact outl q (List.mem_cons_of_mem _ hq) e
    have nt : t ∉ ((x, HO.ins Z.c_Reckoner dx (reckF l t)) :: (dx, HO.own x) :: Lw).map (·.1) := fun z => by
      obtain ⟨q, hq, e⟩ := List.mem_map.mp z
      rcases List.mem_cons.mp hq with rfl | hq
      · exact outt (x, _) List.mem_cons_self e
      · exact outt q (List.mem_cons_of_mem _ hq) e
    simp only [List.map_cons, List.nodup_cons, List.mem_cons, not_or] at nd nl nt ⊢
    exact ⟨⟨fun e => nl.1 e.symm, fun e => nt.1 e.symm, nd.1.1, nd.1.2⟩, ⟨lt, nl.2.1, nl.2.2⟩, ⟨nt.2.1, nt.2.2⟩, nd.2⟩
theorem ok_Reckoner_init (T : Txt K mg Z) : FnOk P w K mg base CX0 3 Z.f_Reckoner_init Z.d_Reckoner_init p_Reckoner_init (sp_Reckoner_init Z.c_Reckoner) := by
  refine T.F_Reckoner_init.ok sc_Reckoner_init (fun vs H Q E h => ?_) (fun cdv A outer s H vs Q E hr h => ?_)
  · obtain ⟨_, _, _, rfl, _⟩ := h; rfl
  · obtain ⟨x, dx, n, rfl, hx, ⟨hn1, hn2⟩, h⟩ := h
    have O := Own.refl1 hx
    refine ⟨_, (pss_cons (ps_expr (pe_call (ok_need_number T) (hr.mono (by decide)) rfl T.g_need_number T.F_need_number.kp T.b_need_number .nil pass0 (pa_cons (pv 1) pa_nil)))
    (pss_cons (ps_fld (pv 0) (pe_lst (pa_cons (pv 1) pa_nil)) rfl)
    (pss_one (ps_fld (pv 0) (pe_tup pa_nil) rfl)))), ?_⟩
    have n1 : ¬ ("stood" : Str) = "deeds" := by decide +kernel
    walk_at "g"; walk_at "mkL"; intro l H1 hl O
    walk_at "g"
    refine a_setF O 1 rfl T.cl_Reckoner T.nf_Reckoner_stood (Nat.lt_of_le_of_lt (Nat.le_refl 0) (by decide)) (fun H2 O => ?_)
    simp only [List.set, put_nil] at O
    walk_at "g"; walk_at "mkT"; intro t H3 ht O
    walk_at "g"
    refine a_setF O 2 rfl T.cl_Reckoner T.nf_Reckoner_deeds (Nat.lt_of_le_of_lt (Nat.le_refl 1) (by decide)) (fun H4 O => ?_)
    simp only [List.set, put_ne n1, put_nil] at O
    have nd := O.nd
    simp only [List.map_cons, List.nodup_cons, List.mem_cons, not_or] at nd
    have fl : ∀ y : Addr, (del1 H x) y = none → y ≠ x → H y = none := fun y e z => by rw [del1_ne z] at e; exact e
    refine h H4 l t (fun q v qn e => O.st q v (by rw [del1_ne qn]; exact e)) (fl l (O.no _ (.tail _ (.head _))) nd.2.1.1) (fl t (O.no _ (.head _)) nd.1.2.1) (fun e => nd.1.1 e.symm) (O.get 2 rfl) (O.get 1 rfl) (O.get 0 rfl)

/-! ### Reckoner_now -/
-- @NEEDS Reckoner_init
def sp_Reckoner_now (Z : Adr) : Sp := fun vs H Q _ => ∃ (x dx l t : Addr) (xs : List V) (v : V), vs = [.ref x] ∧ H x = some (.ins Z.c_Reckoner dx (reckF l t)) ∧ H l = some (.lst xs) ∧ atI xs (-1) = some v ∧ Q v H
theorem use_Reckoner_now {H : Hp} {x dx l t : Addr} {xs : List V} {v : V} {Q : VK} {E : XK} (hx : H x = some (.ins Z.c_Reckoner dx (reckF l t))) (hl : H l = some (.lst xs)) (hv : atI xs (-1) = some v) (h : Q v H) :
    ∃ a' dx fs, V.ref x = .ref a' ∧ H a' = some (.ins Z.c_Reckoner dx fs) ∧ sp_Reckoner_now Z (.ref a' :: []) H Q E := ⟨x, dx, _, rfl, hx, x, dx, l, t, xs, v, rfl, hx, hl, hv, h⟩
theorem ok_Reckoner_now (T : Txt K mg Z) : FnOk P w K mg base CX0 1 Z.f_Reckoner_now Z.d_Reckoner_now p_Reckoner_now (sp_Reckoner_now Z) := by
  refine T.F_Reckoner_now.ok sc_Reckoner_now (fun vs H Q E h => ?_) (fun cdv A outer s H vs Q E hr h => ?_)
  · obtain ⟨_, _, _, _, _, _, rfl, _⟩ := h; rfl
  · obtain ⟨x, dx, l, t, xs, v, rfl, hx, hl, hv, h⟩ := h
    refine ⟨_, (pss_one (ps_ret (pe_ix (r := rIxL K) ix_list (pe_fld (pv 0) rfl) (pe_un un_neg pe_int) (fun _ _ => rfl)))), ?_⟩
    walk_at "g"
    refine a_getF (v := .ref l) hx T.cl_Reckoner T.nf_Reckoner_stood (by unfold reckF; simp only [lk_eq]) ?_
    walk_at "g"
    refine a_ixL (SqL.of hl) hv ?_
    exact h

/-! ### Reckoner_step -/
-- @NEEDS Reckoner_init Trick_init need_trick behind
theorem reck_ne {H : Hp} {x dx l t a : Addr} {b k tt : Int} (hx : H x = some (.ins Z.c_Reckoner dx (reckF l t))) (ha : TrickAt Z H a b k tt) : a ≠ x := fun e => by
  obtain ⟨_, d, h⟩ := ha
  rw [e, hx] at h
  injection h with h
  injection h with _ _ h
  have z := congrArg List.length h
  simp [reckF, trickF] at z
theorem trick_nel {H : Hp} {l a : Addr} {xs : List V} {b k tt : Int} (hl : H l = some (.lst xs)) (ha : TrickAt Z H a b k tt) : a ≠ l := fun e => by
  obtain ⟨_, d, h⟩ := ha
  rw [e, hl] at h
  cases h
def sp_Reckoner_step (Z : Adr) : Sp := fun vs H Q _ => ∃ (x dx l t a : Addr) (ns : List Int) (n b k tt : Int) (xs : List V), vs = [.ref x, .ref a] ∧ H x = some (.ins Z.c_Reckoner dx (reckF l t)) ∧ H l = some (.lst ((ns ++ [n]).map V.int)) ∧ ns.length ≤ 1000 ∧ H t = some (.tup xs) ∧ xs.length ≤ 1000 ∧ TrickAt Z H a b k tt ∧
  ∀ t' H', (∀ q v, q ≠ x → q ≠ l → H q = some v → H' q = some v) → H t' = none → H' t' = some (.tup (xs ++ [.ref a])) → H' x = some (.ins Z.c_Reckoner dx (reckF l t')) → H' l = some (.lst ((ns ++ [n] ++ [beh b k tt n]).map V.int)) → Q (.int (beh b k tt n)) H'
theorem ok_Reckoner_step (T : Txt K mg Z) : FnOk P w K mg base CX0 2 Z.f_Reckoner_step Z.d_Reckoner_step p_Reckoner_step (sp_Reckoner_step Z) := by
  refine T.F_Reckoner_step.ok sc_Reckoner_step (fun vs H Q E h => ?_) (fun cdv A outer s H vs Q E hr h => ?_)
  · obtain ⟨_, _, _, _, _, _, _, _, _, _, _, rfl, _⟩ := h; rfl
  · obtain ⟨x, dx, l, t, a, ns, n, b, k, tt, xs, rfl, hx, hl, hns, ht, hxs, ha, h⟩ := h
    have lx : l ≠ x := fun e => by rw [e, hx] at hl; cases hl
    have tx : t ≠ x := fun e => by rw [e, hx] at ht; cases ht
    have tl : t ≠ l := fun e => by rw [e, hl] at ht; cases ht
    have O := Own.refl2 hx hl lx
    have hB : TrickAt Z (del1 (del1 H x) l) a b k tt := by
      have n1 := reck_ne hx ha
      have n2 := trick_nel hl ha
      obtain ⟨ok, d, e⟩ := ha
      exact ⟨ok, d, by rw [del2_ne n1 n2]; exact e⟩
    have htB : del1 (del1 H x) l t = some (.tup xs) := by rw [del2_ne tx tl]; exact ht
    have fS : (reckF l t).lookup ("stood" : Str) = some (.ref l) := by unfold reckF; simp only [lk_eq]
    have fD : (reckF l t).lookup ("deeds" : Str) = some (.ref t) := by unfold reckF; simp only [lk_ne (show ¬ ("deeds" : Str) = "stood" by decide +kernel), lk_eq]
    have last : ∀ (ms : List Int) (m : Int), atI ((ms ++ [m]).map V.int) (-1) = some (.int m) := fun ms m => by
      unfold atI
      rw [List.length_map, List.length_append, List.length_singleton]
      rw [show ixN (ms.length + 1) (-1) = some ms.length by unfold ixN; rw [if_neg (by omega), if_pos (by omega)]; exact congrArg some (by omega)]
      show ((ms ++ [m]).map V.int)[ms.length]? = _
      rw [List.getElem?_map, List.getElem?_append_right (Nat.le_refl _), Nat.sub_self]
      rfl
    refine ⟨_, (pss_cons (ps_expr (pe_call (ok_need_trick T) (hr.mono (by decide)) rfl T.g_need_trick T.F_need_trick.kp T.b_need_trick .nil pass0 (pa_cons (pv 1) pa_nil)))
    (pss_cons (ps_expr (pe_bm PySem.F.plainAttrs_list PySem.F.slot_list_append PySem.F.type_list_append mt_append (pe_fld (pv 0) rfl) (pa_cons (pe_call (ok_behind T) (hr.mono (by decide)) rfl T.g_behind T.F_behind.kp T.b_behind .nil pass0 (pa_cons (pv 1) (pa_cons (pe_ix (r := rIxL K) ix_list (pe_fld (pv 0) rfl) (pe_un un_neg pe_int) (fun _ _ => rfl)) pa_nil))) pa_nil)))
    (pss_cons (ps_fld (pv 0) (pe_op (r := rCatA K) op_catA (pe_fld (pv 0) rfl) (pe_tup (pa_cons (pv 1) pa_nil))) rfl)
    (pss_one (ps_ret (pe_ix (r := rIxL K) ix_list (pe_fld (pv 0) rfl) (pe_un un_neg pe_int) (fun _ _ => rfl))))))), ?_⟩
    walk_at "g"
    refine a_getF (O.get 1 rfl) T.cl_Reckoner T.nf_Reckoner_stood fS ?_
    refine ⟨.inl ⟨rfl, _, Own.sq O 0 rfl⟩, ?_⟩
    walk_at "g"
    refine a_getF (O.get 1 rfl) T.cl_Reckoner T.nf_Reckoner_stood fS ?_
    walk_at "g"
    refine a_ixL (Own.sq O 0 rfl) (last ns n) ?_
    walk_at "g"
    refine a_app O 0 rfl (by rw [List.length_map, List.length_append, List.length_singleton]; omega) (fun H1 O => ?_)
    walk_at "g"
    refine a_getF (O.get 1 rfl) T.cl_Reckoner T.nf_Reckoner_deeds fD ?_
    walk_at "g"; walk_at "mkT"; intro t1 H2 ht1 O
    walk_at "g"
    simp only [List.set] at O
    refine a_catN O htB (by omega) (fun r H3 O => ?_)
    walk_at "g"
    refine a_setF O 2 rfl T.cl_Reckoner T.nf_Reckoner_deeds (Nat.lt_of_le_of_lt (show (reckF l t).length ≤ 2 from Nat.le_refl 2) (by decide)) (fun H4 O => ?_)
    rw [show putF ("deeds" : Str) (.ref r) (reckF l t) = reckF l r by unfold reckF; rw [put_ne (show ¬ ("stood" : Str) = "deeds" by decide +kernel), put_eq]] at O
    simp only [List.set] at O
    walk_at "g"
    refine a_getF (v := .ref l) (O.get 2 rfl) T.cl_Reckoner T.nf_Reckoner_stood (by unfold reckF; simp only [lk_eq]) ?_
    walk_at "g"
    have el : (ns ++ [n]).map V.int ++ [.int (beh b k tt n)] = (ns ++ [n] ++ [beh b k tt n]).map V.int := by rw [List.map_append (l₁ := ns ++ [n])]; rfl
    rw [el] at O
    refine a_ixL (Own.sq O 1 rfl) (last (ns ++ [n]) (beh b k tt n)) ?_
    have nd := O.nd
    simp only [List.map_cons, List.map_nil, List.nodup_cons, List.mem_cons, List.not_mem_nil, or_false, not_or] at nd
    have rn : H r = none := by
      have z := O.no (r, _) List.mem_cons_self
      rw [del2_ne nd.1.2 nd.1.1] at z
      exact z
    exact h r H4 (fun q v h1 h2 e => O.st q v (by rw [del2_ne h1 h2]; exact e)) rn (O.get 0 rfl) (O.get 2 rfl) (O.get 1 rfl)

/-! ### Reckoner_undo -/
-- @NEEDS Reckoner_init
theorem sIx_last (ys : List V) (v : V) (d : Nat) : HT.sIx (ys ++ [v]).length d (some (-1)) = ys.length := by
  rw [List.length_append, List.length_singleton]
  show (if (-1 : Int) < 0 then ((-1) + ((ys.length + 1 : Nat) : Int)).toNat else min (-1 : Int).toNat (ys.length + 1)) = ys.length
  rw [if_pos (by decide)]
  omega
def sp_Reckoner_undo (Z : Adr) : Sp := fun vs H Q _ => ∃ (x dx l t : Addr) (xs : List V), vs = [.ref x] ∧ H x = some (.ins Z.c_Reckoner dx (reckF l t)) ∧ H t = some (.tup xs) ∧
  ((xs = [] ∧ ∀ H', Same H H' → Q (.bl false) H') ∨
   ∃ (ys : List V) (v : V) (ns : List Int) (n : Int), xs = ys ++ [v] ∧ H l = some (.lst ((ns ++ [n]).map V.int)) ∧
     ∀ t' H', (∀ q v, q ≠ x → q ≠ l → H q = some v → H' q = some v) → H t' = none → H' t' = some (.tup ys) → H' x = some (.ins Z.c_Reckoner dx (reckF l t')) → H' l = some (.lst (ns.map V.int)) → Q (.bl true) H')
theorem ok_Reckoner_undo (T : Txt K mg Z) : FnOk P w K mg base CX0 1 Z.f_Reckoner_undo Z.d_Reckoner_undo p_Reckoner_undo (sp_Reckoner_undo Z) := by
  refine T.F_Reckoner_undo.ok sc_Reckoner_undo (fun vs H Q E h => ?_) (fun cdv A outer s H vs Q E hr h => ?_)
  · obtain ⟨_, _, _, _, _, rfl, _⟩ := h; rfl
  · obtain ⟨x, dx, l, t, xs, rfl, hx, ht, h⟩ := h
    have fS : (reckF l t).lookup ("stood" : Str) = some (.ref l) := by unfold reckF; simp only [lk_eq]
    have fD : (reckF l t).lookup ("deeds" : Str) = some (.ref t) := by unfold reckF; simp only [lk_ne (show ¬ ("deeds" : Str) = "stood" by decide +kernel), lk_eq]
    rcases h with ⟨rfl, h⟩ | ⟨ys, v, ns, n, rfl, hl, h⟩
    · have O := Own.refl H
      refine ⟨_, (pss_cons (ps_if (pt_cmpR (r := rEqT0) (op_eqT0 hr.units) (pe_fld (pv 0) rfl) (pe_tup pa_nil) (nomark _)) (pss_one (ps_ret pe_bl)) pss_nil)
    (pss_cons (ps_expr (pe_bm0 PySem.F.plainAttrs_list PySem.F.slot_list_pop PySem.F.type_list_pop mt_pop (pe_fld (pv 0) rfl)))
    (pss_cons (ps_fld (pv 0) (pe_slice (r := rSlA K) sl_tupA (pe_fld (pv 0) rfl) po_none (po_some (pe_un un_neg pe_int))) rfl)
    (pss_one (ps_ret pe_bl))))), ?_⟩
      walk_at "g"
      refine a_getF hx T.cl_Reckoner T.nf_Reckoner_deeds fD ?_
      walk_at "g"; walk_at "mkT"; intro t1 H2 ht1 O
      walk_at "g"
      refine ⟨t, t1, [], rfl, rfl, O.st _ _ ht, O.get 0 rfl, ?_⟩
      walk_at "g"
      exact h _ O.st
    · have lx : l ≠ x := fun e => by rw [e, hx] at hl; cases hl
      have tx : t ≠ x := fun e => by rw [e, hx] at ht; cases ht
      have tl : t ≠ l := fun e => by rw [e, hl] at ht; cases ht
      have O := Own.refl2 hx hl lx
      have htB : del1 (del1 H x) l t = some (.tup (ys ++ [v])) := by rw [del2_ne tx tl]; exact ht
      refine ⟨_, (pss_cons (ps_if (pt_cmpR (r := rEqT0) (op_eqT0 hr.units) (pe_fld (pv 0) rfl) (pe_tup pa_nil) (nomark _)) (pss_one (ps_ret pe_bl)) pss_nil)
    (pss_cons (ps_expr (pe_bm0 PySem.F.plainAttrs_list PySem.F.slot_list_pop PySem.F.type_list_pop mt_pop (pe_fld (pv 0) rfl)))
    (pss_cons (ps_fld (pv 0) (pe_slice (r := rSlA K) sl_tupA (pe_fld (pv 0) rfl) po_none (po_some (pe_un un_neg pe_int))) rfl)
    (pss_one (ps_ret pe_bl))))), ?_⟩
      walk_at "g"
      refine a_getF (O.get 1 rfl) T.cl_Reckoner T.nf_Reckoner_deeds fD ?_
      walk_at "g"; walk_at "mkT"; intro t1 H2 ht1 O
      walk_at "g"
      refine ⟨t, t1, ys ++ [v], rfl, rfl, O.st _ _ htB, O.get 0 rfl, ?_⟩
      rw [show (ys ++ [v]).isEmpty = false by cases ys <;> rfl]
      replace O := O.tail
      walk_at "g"
      refine a_getF (O.get 1 rfl) T.cl_Reckoner T.nf_Reckoner_stood fS ?_
      refine ⟨.inl ⟨rfl, _, Own.sq O 0 rfl⟩, ?_⟩
      refine ⟨l, _, .int n, rfl, rfl, O.get 0 rfl, ?_, ?_⟩
      · rw [List.length_map, List.length_append, List.length_singleton, Nat.add_sub_cancel, List.getElem?_map, List.getElem?_append_right (Nat.le_refl _), Nat.sub_self]
        rfl
      replace O := Own.put (u := .lst (ns.map V.int)) O 0 rfl
      rw [show ((ns ++ [n]).map V.int).dropLast = ns.map V.int by rw [List.map_append]; exact List.dropLast_concat]
      walk_at "g"
      refine a_getF (O.get 1 rfl) T.cl_Reckoner T.nf_Reckoner_deeds fD ?_
      walk_at "g"
      refine ⟨t, _, rfl, SqT.of (O.st _ _ htB), fun e => ?_, fun _ p hp => ?_⟩
      · exfalso
        have z := e.2
        rw [sIx_last, List.length_append, List.length_singleton] at z
        omega
      · have ec : cutV (ys ++ [v]) none (some (-1)) = ys := by
          unfold cutV
          rw [HT.sIx_none, sIx_last, List.drop_zero, Nat.sub_zero]
          exact List.take_left' rfl
        rw [ec]
        replace O := Own.new (o := .tup ys) O hp
        simp only [List.set] at O
        walk_at "g"
        refine a_setF O 2 rfl T.cl_Reckoner T.nf_Reckoner_deeds (Nat.lt_of_le_of_lt (show (reckF l t).length ≤ 2 from Nat.le_refl 2) (by decide)) (fun H4 O => ?_)
        rw [show putF ("deeds" : Str) (.ref p) (reckF l t) = reckF l p by unfold reckF; rw [put_ne (show ¬ ("stood" : Str) = "deeds" by decide +kernel), put_eq]] at O
        simp only [List.set] at O
        walk_at "g"
        have nd := O.nd
        simp only [List.map_cons, List.map_nil, List.nodup_cons, List.mem_cons, List.not_mem_nil, or_false, not_or] at nd
        have rn : H p = none := by
          have z := O.no (p, _) List.mem_cons_self
          rw [del2_ne nd.1.2 nd.1.1] at z
          exact z
        exact h p H4 (fun q v h1 h2 e => O.st q v (by rw [del2_ne h1 h2]; exact e)) rn (O.get 0 rfl) (O.get 2 rfl) (O.get 1 rfl)

/-! ### Reckoner_copy -/
-- @NEEDS Reckoner_init
def sp_Reckoner_copy (Z : Adr) : Sp := fun vs H Q _ => ∃ (x dx l t : Addr) (n : Int) (ns : List Int) (xs : List V), vs = [.ref x] ∧ H x = some (.ins Z.c_Reckoner dx (reckF l t)) ∧ H l = some (.lst ((n :: ns).map V.int)) ∧ (-(10 ^ 40) ≤ n ∧ n ≤ 10 ^ 40) ∧ H t = some (.tup xs) ∧
  ∀ x' dx' l' H', Own H [(x', .ins Z.c_Reckoner dx' (reckF l' t)), (l', .lst ((n :: ns).map V.int)), (dx', .own x')] H' → Q (.ref x') H'
theorem ok_Reckoner_copy (T : Txt K mg Z) : FnOk P w K mg base CX0 5 Z.f_Reckoner_copy Z.d_Reckoner_copy p_Reckoner_copy (sp_Reckoner_copy Z) := by
  refine T.F_Reckoner_copy.ok sc_Reckoner_copy (fun vs H Q E h => ?_) (fun cdv A outer s H vs Q E hr h => ?_)
  · obtain ⟨_, _, _, _, _, _, _, rfl, _⟩ := h; rfl
  · obtain ⟨x, dx, l, t, n, ns, xs, rfl, hx, hl, hn, ht, h⟩ := h
    have fS : (reckF l t).lookup ("stood" : Str) = some (.ref l) := by unfold reckF; simp only [lk_eq]
    have fD : (reckF l t).lookup ("deeds" : Str) = some (.ref t) := by unfold reckF; simp only [lk_ne (show ¬ ("deeds" : Str) = "stood" by decide +kernel), lk_eq]
    have O := Own.refl H
    refine ⟨_, (pss_cons (ps_set (i := 1) sc_Reckoner_copy.nd rfl (Or.inl rfl) (pe_make T.M_Reckoner (ok_Reckoner_init T) (hr.mono (by decide)) rfl T.g_Reckoner T.b_Reckoner_init .nil pass0 (pa_cons (pe_ix (r := rIxL K) ix_list (pe_fld (pv 0) rfl) pe_int (fun _ _ => rfl)) pa_nil)))
    (pss_cons (ps_asg (pe_tup (pa_cons (pe_callTy (r := rLstOf K) call_lstR (by rfl) T.n_list boot_list (pa_cons (pe_fld (pv 0) rfl) pa_nil)) (pa_cons (pe_fld (pv 0) rfl) pa_nil))) (pg_tup rfl (pgs_cons (pg_fld (pv 1)) (pgs_cons (pg_fld (pv 1)) pgs_nil))))
    (pss_one (ps_ret (pv 1))))), ?_⟩
    walk_at "g"
    refine a_getF hx T.cl_Reckoner T.nf_Reckoner_stood fS ?_
    walk_at "g"
    refine a_ixL (SqL.of hl) (at0 (j := 0) rfl rfl : atI ((n :: ns).map V.int) 0 = some (.int n)) ?_
    walk_at "g"
    refine use_Reckoner O hn (fun x1 dx1 l1 t1 H1 O => ?_)
    walk_at "g"
    refine a_getF (O.st _ _ hx) T.cl_Reckoner T.nf_Reckoner_stood fS ?_
    walk_at "g"
    refine a_lstO O (.inl (SqL.of (O.st _ _ hl))) (fun l2 H2 hl2 O => ?_)
    walk_at "g"
    refine a_getF (O.st _ _ hx) T.cl_Reckoner T.nf_Reckoner_deeds fD ?_
    walk_at "g"; walk_at "mkT"; intro tp H3 htp O
    refine a_gtup (Own.tq O 0 rfl) rfl ?_
    walk_at "g"
    refine a_gfld ?_
    walk_at "g"
    refine a_setF O 2 rfl T.cl_Reckoner T.nf_Reckoner_stood (Nat.lt_of_le_of_lt (show (reckF l1 t1).length ≤ 2 from Nat.le_refl 2) (by decide)) (fun H4 O => ?_)
    rw [show putF ("stood" : Str) (.ref l2) (reckF l1 t1) = reckF l2 t1 by unfold reckF; rw [put_eq]] at O
    walk_at "g"
    refine a_gfld ?_
    walk_at "g"
    refine a_setF O 2 rfl T.cl_Reckoner T.nf_Reckoner_deeds (Nat.lt_of_le_of_lt (show (reckF l2 t1).length ≤ 2 from Nat.le_refl 2) (by decide)) (fun H5 O => ?_)
    rw [show putF ("deeds" : Str) (.ref t) (reckF l2 t1) = reckF l2 t by unfold reckF; rw [put_ne (show ¬ ("stood" : Str) = "deeds" by decide +kernel), put_eq]] at O
    simp only [List.set] at O
    walk_at "g"
    refine h x1 dx1 l2 _ ((O.less (Lw' := [(l2, _), (x1, _), (dx1, _)]) ?_).swap)
    exact .cons _ (.cons_cons _ (.cons_cons _ (.cons _ (.cons _ (.cons_cons _ .slnil)))))

/-! ### Reckoner_len -/
-- @NEEDS Reckoner_init
/-- __len__ itself; len(reckoner) wants a rule of its own -/
def sp_Reckoner_len (Z : Adr) : Sp := fun vs H Q _ => ∃ (x dx l t : Addr) (xs : List V), vs = [.ref x] ∧ H x = some (.ins Z.c_Reckoner dx (reckF l t)) ∧ H t = some (.tup xs) ∧ Q (.int xs.length) H
theorem ok_Reckoner_len (T : Txt K mg Z) : FnOk P w K mg base CX0 1 Z.f_Reckoner_len Z.d_Reckoner_len p_Reckoner_len (sp_Reckoner_len Z) := by
  refine T.F_Reckoner_len.ok sc_Reckoner_len (fun vs H Q E h => ?_) (fun cdv A outer s H vs Q E hr h => ?_)
  · obtain ⟨_, _, _, _, _, rfl, _⟩ := h; rfl
  · obtain ⟨x, dx, l, t, xs, rfl, hx, ht, h⟩ := h
    refine ⟨_, (pss_one (ps_ret (pe_callB (r := R.rLen K) call_lenR (by rfl) T.n_len boot_len (pa_cons (pe_fld (pv 0) rfl) pa_nil)))), ?_⟩
    walk_at "g"
    refine a_getF (v := .ref t) hx T.cl_Reckoner T.nf_Reckoner_deeds (by unfold reckF; simp only [lk_ne (show ¬ ("deeds" : Str) = "stood" by decide +kernel), lk_eq]) ?_
    walk_at "g"
    refine a_len (.inr (SqT.of ht)) ?_
    exact h

/-! ### need_pairs -/
/-- pairs of ints -/
abbrev prs (l : List (Int × Int)) : List (List Int) := l.map fun p => [p.1, p.2]
def PairsOk (l : List (Int × Int)) : Prop := ∀ p ∈ l, (-(10 ^ 40) ≤ p.1 ∧ p.1 ≤ 10 ^ 40) ∧ (-(10 ^ 40) ≤ p.2 ∧ p.2 ≤ 10 ^ 40)
theorem prs_at {H : Hp} {xs : List V} {l : List (Int × Int)} (h : RowsT H xs (prs l)) {i : Nat} {x : V} (hx : xs[i]? = some x) : ∃ (hl : i < l.length) (q : Addr), x = .ref q ∧ H q = some (.tup [.int l[i].1, .int l[i].2]) := by
  obtain ⟨hl, q, e1, e2⟩ := h.at_ hx
  have hl2 : i < l.length := by rw [List.length_map] at hl; exact hl
  refine ⟨hl2, q, e1, ?_⟩
  rw [e2, List.getElem_map]; rfl
def sp_need_pairs : Sp := fun vs H Q _ => ∃ (a : Addr) (xs : List V) (l : List (Int × Int)), vs = [.ref a] ∧ EAt H a xs ∧ RowsT H xs (prs l) ∧ (1 ≤ l.length ∧ l.length ≤ 10) ∧ PairsOk l ∧ ∀ H', Same H H' → Q .non H'
theorem ok_need_pairs (T : Txt K mg Z) : FnOk P w K mg base CX0 2 Z.f_need_pairs Z.d_need_pairs p_need_pairs (sp_need_pairs) := by
  refine T.F_need_pairs.ok sc_need_pairs (fun vs H Q E h => ?_) (fun cdv A outer s H vs Q E hr h => ?_)
  · obtain ⟨_, _, _, rfl, _⟩ := h; rfl
  · obtain ⟨a, xs, l, rfl, hE, hR, ⟨hl1, hl2⟩, hok, h⟩ := h
    have xl : xs.length = l.length := by have := hR.1; rw [List.length_map] at this; exact this
    have O := Own.refl H
    refine ⟨_, (pss_cons (ps_if (PW.pt (pw_or (pt_not (pt_val (pe_callB (r := rIsiT K) call_isiT (by rfl) T.n_isinstance boot_isinstance (pa_cons (pv 0) (pa_cons (pe_tup (pa_cons (pe_bltn (v := .ty "list") (by rfl) T.n_list boot_list rfl) (pa_cons (pe_bltn (v := .ty "tuple") (by rfl) T.n_tuple boot_tuple rfl) pa_nil))) pa_nil))))) (pw_or1 (pt_not (pt_chain op_le op_le pe_int (pe_callB (r := R.rLen K) call_lenR (by rfl) T.n_len boot_len (pa_cons (pv 0) pa_nil)) (pe_globI rfl T.v_MOST_PAIRS)))))) (pss_one ps_never) pss_nil)
    (pss_one (ps_for PassesOwn.never rfl (pi_either (pi_enum rfl T.n_enumerate (pa_cons (pv 0) pa_nil)) (pi_enumT rfl T.n_enumerate (pa_cons (pv 0) pa_nil))) (pg_tup rfl (pgs_cons (pg_name (i := 1) sc_need_pairs.nd rfl (Or.inl rfl)) (pgs_cons (pg_name (i := 2) sc_need_pairs.nd rfl (Or.inl rfl)) pgs_nil)))
    (pss_cons (ps_if (PW.pt (pw_or (pt_not (pt_val (pe_callB (r := rIsi K) call_isi (by rfl) T.n_isinstance boot_isinstance (pa_cons (pv 2) (pa_cons (pe_bltn (v := .ty "tuple") (by rfl) T.n_tuple boot_tuple rfl) pa_nil))))) (pw_or1 (pt_cmpR op_ne (pe_callB (r := R.rLen K) call_lenR (by rfl) T.n_len boot_len (pa_cons (pv 2) pa_nil)) pe_int (nomark _))))) (pss_one ps_never) pss_nil)
    (pss_one (ps_if (pt_not (pt_val (pe_callB (r := rAll K) (cr_all rfl) (by rfl) T.n_all boot_all (pa_cons (pe_lc (own := [("one", 3)]) (tt := tYes) rfl sc_need_pairs.nd (pi_tup (pv 2)) (blkOk_by (N := N_need_pairs) (sc := defScope s_need_pairs) (by decide +kernel)) (fun _ _ _ _ _ => (pg_name (i := 3) sc_need_pairs.nd rfl (Or.inl rfl))) (fun _ _ _ _ _ => pts_nil) (fun _ _ _ _ _ => (pe_call (ok_is_from T) (hr.mono (by decide)) rfl T.g_is_from T.F_is_from.kp T.b_is_from .nil pass0 (pa_cons (pv 3) (pa_cons (pe_un un_neg (pe_globI rfl T.v_MOST_NUMBER)) (pa_cons (pe_globI rfl T.v_MOST_NUMBER) pa_nil)))))) pa_nil)))) (pss_one ps_never) pss_nil)))))), ?_⟩
    walk_at "g"; walk_at "mkT"; intro tp H1 htp O
    walk_at "g"
    refine a_isiE (hE.up O.st) (O.get 0 rfl) ?_
    walk_at "g"
    refine a_lenE (hE.up O.st) ?_
    walk_at "g"
    have s1 : Same H H1 := O.st
    refine for_enumE (hE.up O.st) rfl (fun i σ H' => ∃ v1 v2 v3 Lw, σ = [some (.ref a), v1, v2, v3] ∧ Own H1 Lw H') ⟨_, _, _, [], rfl, Own.refl H1⟩ (fun i σ H' ⟨_, _, _, _, _, O⟩ => O.st) ?_ ?_
    · clear O
      rintro i x T2 σ H' hi ⟨v1, v2, v3, Lw, rfl, O⟩ hT
      have O := Own.new (o := .tup [.int (i : Nat), x]) O hT
      have sH := s1.trans O.st
      obtain ⟨il, q, rfl, hq⟩ := prs_at hR hi
      obtain ⟨⟨a1, a2⟩, b1, b2⟩ := hok l[i] (List.getElem_mem il)
      walk_at "g"
      refine a_isTup (sH _ _ hq) ?_
      walk_at "g"
      refine a_len (.inr (SqT.of (sH _ _ hq))) ?_
      walk_at "g"
      refine a_niT rfl ?_
      walk_at "g"
      refine ⟨q, rfl, ⟨_, SqT.of (sH _ _ hq)⟩, fun D hD => ?_⟩
      replace O := Own.new (o := .lst []) O hD
      refine lc_tup (xs := [.int l[i].1, .int l[i].2]) (fun j H'' => Own H1 ((D, .lst ((List.replicate j true).map V.bl)) :: (T2, .tup [.int (i : Nat), .ref q]) :: Lw) H'') O (fun j H'' _ O => SqT.of (O.st _ _ (s1 _ _ hq))) ?_ ?_
      · clear O
        rintro j y H'' hj O
        have hy : ∃ z : Int, y = .int z ∧ -(10 ^ 40) ≤ z ∧ z ≤ 10 ^ 40 := by
          match j, hj with
          | 0, hj => cases hj; exact ⟨_, rfl, a1, a2⟩
          | 1, hj => cases hj; exact ⟨_, rfl, b1, b2⟩
        have j2 : j < 2 := (List.getElem?_eq_some_iff.mp hj).1
        obtain ⟨z, rfl, z1, z2⟩ := hy
        walk_at "g"
        refine ⟨rfl, ?_⟩
        walk_at "g"
        refine ⟨_, _, _, rfl, ?_⟩
        have key : ∀ lo hi : Int, lo = -(10 ^ 40) → hi = 10 ^ 40 → (decide (lo ≤ z) && decide (z ≤ hi)) = true := fun lo hi e1 e2 => by rw [e1, e2, decide_eq_true z1, decide_eq_true z2]; rfl
        rw [key _ _ (by decide) (by decide)]
        refine ⟨_, O.get 0 rfl, ?_, ?_⟩
        · rw [List.length_map, List.length_replicate]
          exact Nat.lt_of_lt_of_le (show _ < 1000 by omega) (by decide)
        · rw [show (List.replicate (j + 1) true).map V.bl = (List.replicate j true).map V.bl ++ [.bl true] by rw [List.replicate_succ', List.map_append]; rfl]
          exact Own.put O 0 rfl
      · clear O
        rintro H'' O
        walk_at "g"
        refine ⟨D, _, rfl, Own.sq O 0 rfl, ?_⟩
        rw [show (List.replicate [V.int l[i].1, .int l[i].2].length true).all id = true from rfl]
        walk_at "g"
        exact ⟨_, _, _, _, rfl, O⟩
    · rintro σ H' ⟨v1, v2, v3, Lw, rfl, O⟩
      walk_at "g"
      exact h _ (s1.trans O.st)

/-! ### factors_of -/
-- @NEEDS need_pairs
/-- the first i of a list, some of them -/
theorem take_snoc {α : Type} {l : List α} {i : Nat} (h : i < l.length) : l.take (i + 1) = l.take i ++ [l[i]] := by rw [List.take_succ, List.getElem?_eq_getElem h]; rfl
theorem filter_take_snoc {α : Type} {p : α → Bool} {l : List α} {i : Nat} (h : i < l.length) : (l.take (i + 1)).filter p = (l.take i).filter p ++ (if p l[i] = true then [l[i]] else []) := by
  rw [take_snoc h, List.filter_append, List.filter_cons]
  split <;> simp
def sp_factors_of : Sp := fun vs H Q _ => ∃ (B : Int) (a : Addr) (xs : List V) (l : List (Int × Int)), vs = [.int B, .ref a] ∧ (2 ≤ B ∧ B ≤ 256) ∧ EAt H a xs ∧ RowsT H xs (prs l) ∧ l.length ≤ 10 ∧
  ∀ p H', Same H H' → H p = none → H' p = some (.lst ((facs B l).map V.int)) → Q (.ref p) H'
theorem ok_factors_of (T : Txt K mg Z) : FnOk P w K mg base CX0 1 Z.f_factors_of Z.d_factors_of p_factors_of sp_factors_of := by
  refine T.F_factors_of.ok sc_factors_of (fun vs H Q E h => ?_) (fun cdv A outer s H vs Q E hr h => ?_)
  · obtain ⟨_, _, _, _, rfl, _⟩ := h; rfl
  · obtain ⟨B, a, xs, l, rfl, ⟨hB1, hB2⟩, hE, hR, hl, h⟩ := h
    have xl : xs.length = l.length := by have := hR.1; rw [List.length_map] at this; exact this
    have O := Own.refl H
    have ml : ∀ p : Int × Int, 0 ≤ (rst B p).1 ∧ (rst B p).1 < B := fun p => ⟨Int.emod_nonneg _ (by omega), Int.emod_lt_of_pos _ (by omega)⟩
    refine ⟨_, (C8.pss_cut (ps_setLc (i := 2) rfl sc_factors_of.nd rfl rfl (sw_true rfl rfl rfl (by decide +kernel)) (own := [("n", 7), ("later", 8)]) (tt := tYes) (pi_either (pi_list (pv 1)) (pi_tup (pv 1))) (blkOk_by (N := N_factors_of) (sc := defScope s_factors_of) (by decide +kernel)) (fun _ _ _ _ _ => (pg_tupK (K := K) (n := 2) rfl (pgs_cons (pg_name (i := 7) sc_factors_of.nd rfl (Or.inl rfl)) (pgs_cons (pg_name (i := 8) sc_factors_of.nd rfl (Or.inl rfl)) pgs_nil)))) (fun _ _ _ _ _ => pts_nil) (fun _ _ _ _ _ => (pe_tup (pa_cons (pe_op op_mod (pv 7) (pv 0)) (pa_cons (pe_op op_sub (pv 8) (pe_op op_fdivW (pv 7) (pv 0))) pa_nil)))))
    (pss_cons (ps_if (pt_not (pt_val (pe_callB (r := rAll K) (cr_all rfl) (by rfl) T.n_all boot_all (pa_cons (pe_lc (own := [("rest", 4), ("less", 5)]) rfl sc_factors_of.nd (pi_list (pv 2)) (blkOk_by (N := N_factors_of) (sc := defScope s_factors_of) (by decide +kernel)) (fun _ _ _ _ _ => (pg_tupK (K := K) (n := 2) rfl (pgs_cons (pg_name (i := 4) sc_factors_of.nd rfl (Or.inl rfl)) (pgs_cons (pg_name (i := 5) sc_factors_of.nd rfl (Or.inl rfl)) pgs_nil)))) (fun _ _ _ _ _ => (pts_one (pt_cmpR op_eq (pv 4) pe_int (nomark _)))) (fun _ _ _ _ _ => (pe_cmpR op_eq (pv 5) pe_int (nomark _)))) pa_nil)))) (pss_one (ps_ret (pe_lst pa_nil))) pss_nil)
    (pss_cons (ps_setLc (i := 3) rfl sc_factors_of.nd rfl rfl (sw_true rfl rfl rfl (by decide +kernel)) (own := [("rest", 4), ("less", 5)]) (pi_list (pv 2)) (blkOk_by (N := N_factors_of) (sc := defScope s_factors_of) (by decide +kernel)) (fun _ _ _ _ _ => (pg_tupK (K := K) (n := 2) rfl (pgs_cons (pg_name (i := 4) sc_factors_of.nd rfl (Or.inl rfl)) (pgs_cons (pg_name (i := 5) sc_factors_of.nd rfl (Or.inl rfl)) pgs_nil)))) (fun _ _ _ _ _ => (pts_one (pt_cmpR op_ne (pv 4) pe_int (nomark _)))) (fun _ _ _ _ _ => (pe_tup (pa_cons (pv 4) (pa_cons (pv 5) pa_nil)))))
    (pss_cons (ps_if (pt_cmpR (r := rEqD K) (op_eqD hr.units) (pv 3) (pe_lst pa_nil) (nomark _)) (pss_one (ps_ret (pe_listRg rfl (by rfl) T.n_list (prg_2 rfl T.n_range (pe_un un_neg (pe_globI rfl T.v_MOST_TIMES)) (pe_op op_add (pe_globI rfl T.v_MOST_TIMES) pe_int))))) pss_nil)
    (pss_cons (ps_asg (pe_ix (r := rIxL K) ix_list (pv 3) pe_int (fun _ _ => rfl)) (pg_tup rfl (pgs_cons (pg_name (i := 4) sc_factors_of.nd rfl (Or.inl rfl)) (pgs_cons (pg_name (i := 5) sc_factors_of.nd rfl (Or.inl rfl)) pgs_nil))))
    (pss_cons (ps_set (i := 6) sc_factors_of.nd rfl (Or.inr rfl) (pe_op op_fdivW (pv 5) (pv 4)))
    (pss_cons (ps_if (PW.pt (pw_or (pt_cmpR op_gt (pe_callB call_absR (by rfl) T.n_abs boot_abs (pa_cons (pv 6) pa_nil)) (pe_globI rfl T.v_MOST_TIMES) (nomark _)) (pw_or1 (pt_not (pt_val (pe_callB (r := rAll K) (cr_all rfl) (by rfl) T.n_all boot_all (pa_cons (pe_lc (own := [("other", 9), ("left", 10)]) (tt := tYes) rfl sc_factors_of.nd (pi_list (pv 3)) (blkOk_by (N := N_factors_of) (sc := defScope s_factors_of) (by decide +kernel)) (fun _ _ _ _ _ => (pg_tupK (K := K) (n := 2) rfl (pgs_cons (pg_name (i := 9) sc_factors_of.nd rfl (Or.inl rfl)) (pgs_cons (pg_name (i := 10) sc_factors_of.nd rfl (Or.inl rfl)) pgs_nil)))) (fun _ _ _ _ _ => pts_nil) (fun _ _ _ _ _ => (pe_cmpR op_eq (pe_op op_mulX (pv 9) (pv 6)) (pv 10) (nomark _)))) pa_nil))))))) (pss_one (ps_ret (pe_lst pa_nil))) pss_nil)
    (pss_one (ps_ret (pe_lst (pa_cons (pv 6) pa_nil))))))))))), ?_⟩
    -- what has a rest, and what is left
    refine ⟨fun σ H' => ∃ (B1 : Hp) (D : Addr) (rs : List V), σ = [some (.int B), some (.ref a), some (.ref D), none, none, none, none, none, none, none, none] ∧ Own B1 [(D, .lst rs)] H' ∧ Same H B1 ∧ RowsT B1 rs (prs (l.map (rst B))), ?_, ?_⟩
    · have turn : ∀ (i : Nat) (x : V) (D : Addr) (H' : Hp), xs[i]? = some x → (∃ (B1 : Hp) (rs : List V), Own B1 [(D, .lst rs)] H' ∧ Same H B1 ∧ RowsT B1 rs (prs ((l.take i).map (rst B)))) →
        ∃ (il : i < l.length) (q : Addr) (B1 : Hp) (rs : List V), x = .ref q ∧ H' q = some (.tup [.int l[i].1, .int l[i].2]) ∧ Own B1 [(D, .lst rs)] H' ∧ Same H B1 ∧ RowsT B1 rs (prs ((l.take i).map (rst B))) ∧ rs.length = i := by
        rintro i x D H' hi ⟨B1, rs, O, s1, hr⟩
        obtain ⟨il, q, rfl, hq⟩ := prs_at hR hi
        refine ⟨il, q, B1, rs, rfl, O.st _ _ (s1 _ _ hq), O, s1, hr, ?_⟩
        have := hr.1
        rw [List.length_map, List.length_map, List.length_take] at this
        omega
      walk_at "g"
      rcases hE with hE | hE
      · refine .inl ?_
        walk_at "g"
        refine ⟨a, rfl, ⟨_, SqL.of hE⟩, fun D hD => ?_⟩
        replace O := Own.new (o := .lst []) O hD
        refine lc_list (xs := xs) (fun i H' => ∃ (B1 : Hp) (rs : List V), Own B1 [(D, .lst rs)] H' ∧ Same H B1 ∧ RowsT B1 rs (prs ((l.take i).map (rst B)))) ⟨H, [], O, Same.refl H, RowsT.nil H⟩ (fun i H' _ ⟨B1, rs, O, s1, _⟩ => SqL.of (O.st _ _ (s1 _ _ hE))) ?_ ?_
        · clear O
          intro i x H' hi hp
          obtain ⟨il, q, B1, rs, rfl, hq, O, s1, hr, rl⟩ := turn i x D H' hi hp
          refine a_gtup (SqT.of hq) rfl ?_
          walk_at "g"
          refine ⟨rfl, ?_⟩
          walk_at "g"; walk_at "mkT"; intro q1 H2 hq1 O
          refine ⟨_, O.get 1 rfl, Nat.lt_of_lt_of_le (show _ < 1000 by omega) (by decide), ?_⟩
          replace O := Own.put (u := .lst (rs ++ [.ref q1])) O 1 rfl
          have O2 : Own _ [(D, .lst (rs ++ [.ref q1]))] _ := Own.fix O
          have s2 := Own.fixS O
          refine ⟨_, _, O2, s1.trans s2, ?_⟩
          rw [take_snoc il, List.map_append, prs, List.map_append]
          exact (hr.same s2).snoc (ns := [(rst B l[i]).1, (rst B l[i]).2]) upd_same
        · clear O
          rintro H' ⟨B1, rs, O, s1, hr⟩
          rw [List.take_of_length_le (by omega)] at hr
          walk_at "g"
          exact ⟨B1, D, rs, rfl, O, s1, hr⟩
      · refine .inr ?_
        walk_at "g"
        refine ⟨a, rfl, ⟨_, SqT.of hE⟩, fun D hD => ?_⟩
        replace O := Own.new (o := .lst []) O hD
        refine lc_tup (xs := xs) (fun i H' => ∃ (B1 : Hp) (rs : List V), Own B1 [(D, .lst rs)] H' ∧ Same H B1 ∧ RowsT B1 rs (prs ((l.take i).map (rst B)))) ⟨H, [], O, Same.refl H, RowsT.nil H⟩ (fun i H' _ ⟨B1, rs, O, s1, _⟩ => SqT.of (O.st _ _ (s1 _ _ hE))) ?_ ?_
        · clear O
          intro i x H' hi hp
          obtain ⟨il, q, B1, rs, rfl, hq, O, s1, hr, rl⟩ := turn i x D H' hi hp
          refine a_gtup (SqT.of hq) rfl ?_
          walk_at "g"
          refine ⟨rfl, ?_⟩
          walk_at "g"; walk_at "mkT"; intro q1 H2 hq1 O
          refine ⟨_, O.get 1 rfl, Nat.lt_of_lt_of_le (show _ < 1000 by omega) (by decide), ?_⟩
          replace O := Own.put (u := .lst (rs ++ [.ref q1])) O 1 rfl
          have O2 : Own _ [(D, .lst (rs ++ [.ref q1]))] _ := Own.fix O
          have s2 := Own.fixS O
          refine ⟨_, _, O2, s1.trans s2, ?_⟩
          rw [take_snoc il, List.map_append, prs, List.map_append]
          exact (hr.same s2).snoc (ns := [(rst B l[i]).1, (rst B l[i]).2]) upd_same
        · clear O
          rintro H' ⟨B1, rs, O, s1, hr⟩
          rw [List.take_of_length_le (by omega)] at hr
          walk_at "g"
          exact ⟨B1, D, rs, rfl, O, s1, hr⟩
    · clear O hE hR xs xl
      rintro σ H' ⟨B1, D, rs, rfl, O, s1, hr⟩
      have rl : rs.length = l.length := by have := hr.1; rw [List.length_map, List.length_map] at this; exact this
      have at1 : ∀ (H' : Hp) (i : Nat) (x : V), Same B1 H' → rs[i]? = some x → ∃ (il : i < l.length) (q : Addr), x = .ref q ∧ H' q = some (.tup [.int (rst B l[i]).1, .int (rst B l[i]).2]) := fun H' i x s hx => by
        obtain ⟨il, q, e1, e2⟩ := prs_at hr hx
        rw [List.length_map] at il
        refine ⟨il, q, e1, s _ _ ?_⟩
        rw [e2, List.getElem_map]
      walk_at "g"
      refine ⟨D, rfl, ⟨_, Own.sq O 0 rfl⟩, fun D1 hD1 => ?_⟩
      replace O := Own.new (o := .lst []) O hD1
      refine lc_list (xs := rs) (fun i H' => ∃ bs : List Bool, Own B1 [(D1, .lst (bs.map V.bl)), (D, .lst rs)] H' ∧ bs.length ≤ i ∧ bs.all id = (l.take i).all fun p => !decide ((rst B p).1 = 0) || decide ((rst B p).2 = 0)) ⟨[], O, Nat.le_refl 0, rfl⟩ (fun i H' _ ⟨bs, O, _⟩ => Own.sq O 1 rfl) ?_ ?_
      · clear O
        rintro i x H' hi ⟨bs, O, bl, ba⟩
        obtain ⟨il, q, rfl, hq⟩ := at1 H' i x O.st hi
        refine a_gtup (SqT.of hq) rfl ?_
        walk_at "g"
        refine ⟨rfl, ?_⟩
        walk_at "g"
        refine a_it2 (fun c => ?_) (fun c => ?_)
        · walk_at "g"
          refine ⟨_, O.get 0 rfl, Nat.lt_of_lt_of_le (show _ < 1000 by rw [List.length_map]; omega) (by decide), ?_⟩
          refine ⟨bs ++ [decide ((rst B l[i]).2 = 0)], ?_, by rw [List.length_append, List.length_singleton]; omega, ?_⟩
          · rw [List.map_append]
            exact Own.put O 0 rfl
          · rw [take_snoc il, List.all_append, List.all_append, ba]
            simp [c]
        · refine ⟨bs, O, by omega, ?_⟩
          rw [take_snoc il, List.all_append, ba]
          simp [c]
      clear O
      rintro H' ⟨bs, O, bl, ba⟩
      rw [List.take_of_length_le (by omega)] at ba
      walk_at "g"
      refine ⟨D1, bs, rfl, Own.sq O 0 rfl, ?_⟩
      rw [ba]
      replace O := O.tail
      walk_at "g"
      refine a_niB (fun e => ?_) (fun e => ?_)
      · have hz : ∀ p ∈ l, (rst B p).1 = 0 → (rst B p).2 = 0 := fun p hp z => by
          have q := List.all_eq_true.mp e p hp
          rw [decide_eq_true z] at q
          simpa using q
        walk_at "g"
        refine ⟨D, rfl, ⟨_, Own.sq O 0 rfl⟩, fun D2 hD2 => ?_⟩
        replace O := Own.new (o := .lst []) O hD2
        refine lc_list (xs := rs) (fun i H' => ∃ (B2 : Hp) (ss : List V), Own B2 [(D2, .lst ss), (D, .lst rs)] H' ∧ Same B1 B2 ∧ ss.length ≤ i ∧ RowsT B2 ss (prs (((l.take i).map (rst B)).filter fun p => !decide (p.1 = 0)))) ⟨B1, [], O, Same.refl B1, Nat.le_refl 0, RowsT.nil B1⟩ (fun i H' _ ⟨B2, ss, O, _⟩ => Own.sq O 1 rfl) ?_ ?_
        · clear O
          rintro i x H' hi ⟨B2, ss, O, s2, sl, hs⟩
          obtain ⟨il, q, rfl, hq⟩ := at1 H' i x (s2.trans O.st) hi
          refine a_gtup (SqT.of hq) rfl ?_
          walk_at "g"
          refine ⟨rfl, ?_⟩
          walk_at "g"
          refine a_ni2 (fun c => ?_) (fun c => ?_)
          · refine ⟨B2, ss, O, s2, by omega, ?_⟩
            rw [take_snoc il, List.map_append, List.filter_append, show ([l[i]].map (rst B)).filter (fun p => !decide (p.1 = 0)) = [] by simp [c], List.append_nil]
            exact hs
          · walk_at "g"; walk_at "mkT"; intro q1 H2 hq1 O
            refine ⟨_, O.get 1 rfl, Nat.lt_of_lt_of_le (show _ < 1000 by omega) (by decide), ?_⟩
            replace O := Own.put (u := .lst (ss ++ [.ref q1])) O 1 rfl
            have O2 : Own _ [(D2, .lst (ss ++ [.ref q1])), (D, .lst rs)] _ := Own.fix O
            have s3 := Own.fixS O
            refine ⟨_, _, O2, s2.trans s3, by rw [List.length_append, List.length_singleton]; omega, ?_⟩
            rw [take_snoc il, List.map_append, List.filter_append, show ([l[i]].map (rst B)).filter (fun p => !decide (p.1 = 0)) = [rst B l[i]] by simp [c], prs, List.map_append]
            exact (hs.same s3).snoc (ns := [(rst B l[i]).1, (rst B l[i]).2]) upd_same
        clear O
        rintro H' ⟨B2, ss, O, s2, sl, hs⟩
        rw [List.take_of_length_le (by omega)] at hs
        have hmem : ∀ r, r ∈ (l.map (rst B)).filter (fun p => !decide (p.1 = 0)) ↔ ∃ p ∈ l, rst B p = r ∧ r.1 ≠ 0 := fun r => by
          rw [List.mem_filter, List.mem_map]
          constructor
          · rintro ⟨⟨p, hp, e1⟩, e2⟩
            exact ⟨p, hp, e1, by simpa using e2⟩
          · rintro ⟨p, hp, e1, e2⟩
            exact ⟨⟨p, hp, e1⟩, by simpa using e2⟩
        generalize hR : (l.map (rst B)).filter (fun p => !decide (p.1 = 0)) = R at *
        have sR : ss.length = R.length := by have := hs.1; rw [List.length_map] at this; exact this
        walk_at "g"; walk_at "mkL"; intro e0 H3 he0 O
        walk_at "g"
        refine a_eqRows0 (hs.same O.st) (Own.sq O 1 rfl) (Own.sq O 0 rfl) ?_
        replace O := O.tail
        walk_at "g"
        cases R with
        | nil =>
          refine a_tt ?_
          walk_at "g"
          refine ⟨_, _, rfl, rfl, ⟨by omega, by omega, by omega, by omega, by decide⟩, fun p hp => ?_⟩
          replace O := Own.new (o := .lst (rgV (-100) (100 + 1))) O hp
          refine h p _ ((s1.trans s2).trans O.st) (s1.free (s2.free (O.no (p, _) List.mem_cons_self))) ?_
          rw [facs_all (l := l) (B := B) fun p hp => ?_]
          · rw [O.get 0 rfl]
            congr 2
          · have n : (rst B p).1 = 0 := by
              by_cases z : (rst B p).1 = 0
              · exact z
              · exact absurd ((hmem (rst B p)).mpr ⟨p, hp, rfl, z⟩) List.not_mem_nil
            exact ⟨n, hz p hp n⟩
        | cons r0 R =>
          refine a_ff ?_
          walk_at "g"
          have at2 : ∀ (H' : Hp) (i : Nat) (x : V), Same B2 H' → ss[i]? = some x → ∃ (il : i < (r0 :: R).length) (q : Addr), x = .ref q ∧ H' q = some (.tup [.int (r0 :: R)[i].1, .int (r0 :: R)[i].2]) := fun H' i x s hx => by
            obtain ⟨il, q, e1, e2⟩ := prs_at hs hx
            exact ⟨il, q, e1, s _ _ e2⟩
          have s0 : 0 < ss.length := by rw [sR]; exact Nat.zero_lt_succ _
          obtain ⟨_, q0, e0, hq0⟩ := at2 H3 0 ss[0] O.st (List.getElem?_eq_getElem s0)
          have hq0 : H3 q0 = some (.tup [.int r0.1, .int r0.2]) := hq0
          refine a_ixL (Own.sq O 0 rfl) (at0 (j := 0) rfl (by rw [List.getElem?_eq_getElem s0, e0])) ?_
          refine a_gtup (SqT.of hq0) rfl ?_
          obtain ⟨p0, hp0, e1, e2⟩ := (hmem r0).mp List.mem_cons_self
          have m0 := ml p0
          rw [e1] at m0
          have r1 : 0 < r0.1 := by omega
          walk_at "g"
          have fin : facs B l = if (-100 ≤ r0.2 / r0.1 ∧ r0.2 / r0.1 ≤ 100) ∧ (∀ p ∈ l, (rst B p).1 ≠ 0 → (rst B p).1 * (r0.2 / r0.1) = (rst B p).2) then [r0.2 / r0.1] else [] := facs_one r1 ⟨p0, hp0, e1⟩ hz
          generalize r0.2 / r0.1 = t at *
          have sB : Same H H3 := (s1.trans s2).trans O.st
          refine a_it2 (fun c => ?_) (fun c => ?_)
          · walk_at "g"; walk_at "mkL"; intro p H4 hp O
            walk_at "g"
            refine h p H4 ((s1.trans s2).trans O.st) (s1.free (s2.free (O.no (p, _) List.mem_cons_self))) ?_
            rw [fin, if_neg (by omega)]
            exact O.get 0 rfl
          · walk_at "g"
            refine ⟨D2, rfl, ⟨_, Own.sq O 0 rfl⟩, fun D3 hD3 => ?_⟩
            replace O := Own.new (o := .lst []) O hD3
            refine lc_list (xs := ss) (fun i H' => ∃ bs : List Bool, Own B2 [(D3, .lst (bs.map V.bl)), (D2, .lst ss), (D, .lst rs)] H' ∧ bs.length ≤ i ∧ bs.all id = ((r0 :: R).take i).all fun p => decide (p.1 * t = p.2)) ⟨[], O, Nat.le_refl 0, rfl⟩ (fun i H' _ ⟨bs, O, _⟩ => Own.sq O 1 rfl) ?_ ?_
            · clear O
              rintro i x H' hi ⟨bs, O, bl, ba⟩
              obtain ⟨il, q, rfl, hq⟩ := at2 H' i x O.st hi
              have il2 : i < 10 := by omega
              obtain ⟨p1, hp1, f1, f2⟩ := (hmem _).mp (List.getElem_mem il)
              have m1 := ml p1
              rw [f1] at m1
              refine a_gtup (SqT.of hq) rfl ?_
              walk_at "g"
              refine ⟨rfl, ?_⟩
              walk_at "g"
              refine ⟨_, O.get 0 rfl, Nat.lt_of_lt_of_le (show _ < 1000 by rw [List.length_map]; omega) (by decide), ?_⟩
              refine ⟨bs ++ [decide ((r0 :: R)[i].1 * t = (r0 :: R)[i].2)], ?_, by rw [List.length_append, List.length_singleton]; omega, ?_⟩
              · rw [List.map_append]
                exact Own.put O 0 rfl
              · rw [take_snoc il, List.all_append, List.all_append, ba]
                simp
            clear O
            rintro H' ⟨bs, O, bl, ba⟩
            rw [List.take_of_length_le (by omega)] at ba
            walk_at "g"
            refine ⟨D3, bs, rfl, Own.sq O 0 rfl, ?_⟩
            rw [ba]
            have iff : ((r0 :: R).all fun p => decide (p.1 * t = p.2)) = true ↔ ∀ p ∈ l, (rst B p).1 ≠ 0 → (rst B p).1 * t = (rst B p).2 := by
              rw [List.all_eq_true]
              constructor
              · intro k p hp z
                exact of_decide_eq_true (k _ ((hmem _).mpr ⟨p, hp, rfl, z⟩))
              · intro k r hr
                obtain ⟨p, hp, rfl, z⟩ := (hmem r).mp hr
                exact decide_eq_true (k p hp z)
            walk_at "g"
            refine a_niB (fun e => ?_) (fun e => ?_)
            · walk_at "g"; walk_at "mkL"; intro p H4 hp O
              walk_at "g"
              refine h p H4 ((s1.trans s2).trans O.st) (s1.free (s2.free (O.no (p, _) List.mem_cons_self))) ?_
              rw [fin, if_pos ⟨by omega, iff.mp e⟩]
              exact O.get 0 rfl
            · walk_at "g"; walk_at "mkL"; intro p H4 hp O
              walk_at "g"
              refine h p H4 ((s1.trans s2).trans O.st) (s1.free (s2.free (O.no (p, _) List.mem_cons_self))) ?_
              rw [fin, if_neg (fun z => by rw [iff.mpr z.2] at e; cases e)]
              exact O.get 0 rfl
      · walk_at "g"; walk_at "mkL"; intro p H2 hp O
        walk_at "g"
        refine h p H2 (s1.trans O.st) (s1.free (O.no (p, _) List.mem_cons_self)) ?_
        rw [facs_zero (l := l) (B := B) ?_]
        · exact O.get 0 rfl
        · rw [List.all_eq_false] at e
          obtain ⟨p, hp, e⟩ := e
          refine ⟨p, hp, ?_⟩
          simpa using e

/-! ### fitting -/
-- @NEEDS need_pairs factors_of
def sp_fitting : Sp := fun vs H Q _ => ∃ (a : Addr) (xs : List V) (l : List (Int × Int)), vs = [.ref a] ∧ EAt H a xs ∧ RowsT H xs (prs l) ∧ (1 ≤ l.length ∧ l.length ≤ 10) ∧ PairsOk l ∧
  ∀ p ys H', Same H H' → H p = none → H' p = some (.lst ys) → RowsT H' ys (fitAll l 15) → Q (.ref p) H'
theorem pow_smallF {b k : Int} (hb : 2 ≤ b ∧ b ≤ 16) (hk : 1 ≤ k ∧ k ≤ 2) : 2 ≤ b ^ k.toNat ∧ b ^ k.toNat ≤ 256 := by
  have e : k = 1 ∨ k = 2 := by omega
  rcases e with rfl | rfl
  · have z : b ^ (1 : Int).toNat = b := by rw [show (1 : Int).toNat = 1 from rfl, Int.pow_succ, Int.pow_zero, Int.one_mul]
    rw [z]; omega
  · have z : b ^ (2 : Int).toNat = b * b := by rw [show (2 : Int).toNat = 2 from rfl, Int.pow_succ, Int.pow_succ, Int.pow_zero, Int.one_mul]
    rw [z]
    have h1 : b * 2 ≤ b * b := Int.mul_le_mul_of_nonneg_left hb.1 (by omega)
    have h2 : b * b ≤ 16 * 16 := Int.mul_le_mul hb.2 hb.2 (by omega) (by omega)
    omega
theorem ok_fitting (T : Txt K mg Z) : FnOk P w K mg base CX0 3 Z.f_fitting Z.d_fitting p_fitting sp_fitting := by
  refine T.F_fitting.ok sc_fitting (fun vs H Q E h => ?_) (fun cdv A outer s H vs Q E hr h => ?_)
  · obtain ⟨_, _, _, rfl, _⟩ := h; rfl
  · obtain ⟨a, xs, l, rfl, hE, hR, hl, hok, h⟩ := h
    refine ⟨_, (pss_cons (ps_expr (pe_call (ok_need_pairs T) (hr.mono (by decide)) rfl T.g_need_pairs T.F_need_pairs.kp T.b_need_pairs .nil pass0 (pa_cons (pv 0) pa_nil)))
    (pss_cons (ps_set (i := 1) sc_fitting.nd rfl (Or.inl rfl) (pe_lst pa_nil))
    (pss_cons (ps_for PassesOwn.never rfl (pi_range2 rfl T.n_range (pa_cons (pe_globI rfl T.v_LEAST_BASE) (pa_cons (pe_op op_add (pe_globI rfl T.v_MOST_BASE) pe_int) pa_nil))) (pg_name (i := 2) sc_fitting.nd rfl (Or.inr rfl))
    (pss_one (ps_for PassesOwn.never rfl (pi_range2 rfl T.n_range (pa_cons pe_int (pa_cons (pe_op op_add (pe_globI rfl T.v_MOST_TAKE) pe_int) pa_nil))) (pg_name (i := 3) sc_fitting.nd rfl (Or.inr rfl))
    (pss_one (ps_expr (pe_bm PySem.F.plainAttrs_list PySem.F.slot_list_extend PySem.F.type_list_extend mt_extend (pv 1) (pa_cons (pe_lc (own := [("times", 4)]) (tt := tYes) rfl sc_fitting.nd (pi_list (pe_call (ok_factors_of T) (hr.mono (by decide)) rfl T.g_factors_of T.F_factors_of.kp T.b_factors_of .nil pass0 (pa_cons (pe_call (ok_power T) (hr.mono (by decide)) rfl T.g_power T.F_power.kp T.b_power .nil pass0 (pa_cons (pv 2) (pa_cons (pv 3) pa_nil))) (pa_cons (pv 0) pa_nil)))) (blkOk_by (N := N_fitting) (sc := defScope s_fitting) (by decide +kernel)) (fun _ _ _ _ _ => (pg_name (i := 4) sc_fitting.nd rfl (Or.inl rfl))) (fun _ _ _ _ _ => pts_nil) (fun _ _ _ _ _ => (pe_tup (pa_cons (pv 2) (pa_cons (pv 3) (pa_cons (pv 4) pa_nil)))))) pa_nil)))))))
    (pss_one (ps_ret (pv 1)))))), ?_⟩
    walk_at "g"
    refine ⟨a, xs, l, rfl, hE, hR, hl, hok, fun H0 s0 => ?_⟩
    have O : Own H [] H0 := (Own.refl H).same s0
    walk_at "g"; walk_at "mkL"; intro p H1 hp O
    have hpH : H p = none := s0.free hp
    walk_at "g"
    refine for_range (fun i σ H' => ∃ (B : Hp) (ys : List V) (v2 v3 v4 : Option V), σ = [some (.ref a), some (.ref p), v2, v3, v4] ∧ Own B [(p, .lst ys)] H' ∧ Same H B ∧ RowsT B ys (fitAll l i)) ⟨H, [], _, _, _, rfl, O, Same.refl H, RowsT.nil H⟩ ?_ ?_
    · clear O
      rintro i σ H' hi ⟨B, ys, v2, v3, v4, rfl, O, sB, hr⟩
      have i15 : i < 15 := hi
      have al := fitAll_len l i
      walk_at "g"
      refine for_range (fun j σ H' => ∃ (B : Hp) (ys : List V) (v3 v4 : Option V), σ = [some (.ref a), some (.ref p), some (.int (2 + (i : Int))), v3, v4] ∧ Own B [(p, .lst ys)] H' ∧ Same H B ∧ RowsT B ys (fitAll l i ++ fitRow l (2 + (i : Int)) j)) ⟨B, ys, _, _, rfl, O, sB, by rw [fitRow, List.append_nil]; exact hr⟩ ?_ ?_
      · clear O hr sB
        rintro j σ H' hj ⟨B, ys, v3, v4, rfl, O, sB, hr⟩
        have j2 : j < 2 := hj
        have rl := fitRow_len l (2 + (i : Int)) j
        have bs := pow_smallF (b := 2 + (i : Int)) (k := 1 + (j : Int)) (by omega) (by omega)
        have yl : ys.length ≤ 402 * i + 201 * j := by rw [hr.1, List.length_append]; omega
        walk_at "g"
        refine ⟨.inl ⟨rfl, _, Own.sq O 0 rfl⟩, ?_⟩
        walk_at "g"
        have sH : Same H H' := sB.trans O.st
        refine ⟨(2 + (i : Int)) ^ (1 + (j : Int)).toNat, a, xs, l, rfl, bs, hE.up sH, hR.same sH, hl.2, fun q H2 s2 hq hq2 => ?_⟩
        replace O := O.got s2 hq hq2
        have fl : (facs ((2 + (i : Int)) ^ (1 + (j : Int)).toNat) l).length ≤ 201 := by
          have := fitB_len l (2 + (i : Int)) (1 + (j : Int))
          unfold fitB at this
          rw [List.length_map] at this
          exact this
        generalize hf : facs ((2 + (i : Int)) ^ (1 + (j : Int)).toNat) l = fs at *
        refine ⟨q, rfl, ⟨_, Own.sq O 0 rfl⟩, fun D hD => ?_⟩
        replace O := Own.new (o := .lst []) O hD
        refine lc_list (xs := fs.map V.int) (fun m H' => ∃ (B2 : Hp) (zs : List V), Own B2 [(D, .lst zs), (q, .lst (fs.map V.int)), (p, .lst ys)] H' ∧ Same B B2 ∧ RowsT B2 zs ((fs.take m).map fun t => [2 + (i : Int), 1 + (j : Int), t])) ⟨B, [], O, Same.refl B, RowsT.nil B⟩ (fun m H' _ ⟨_, _, O, _⟩ => Own.sq O 1 rfl) ?_ ?_
        · clear O
          rintro m x H' hm ⟨B2, zs, O, s3, hz⟩
          rw [List.getElem?_map] at hm
          obtain ⟨t, ht, rfl⟩ := Option.map_eq_some_iff.mp hm
          obtain ⟨ml, et⟩ := List.getElem?_eq_some_iff.mp ht
          have zl : zs.length ≤ 201 := by rw [hz.1, List.length_map, List.length_take]; omega
          walk_at "g"
          refine ⟨rfl, ?_⟩
          walk_at "g"; walk_at "mkT"; intro q1 H3 hq1 O
          refine ⟨_, O.get 1 rfl, Nat.lt_of_lt_of_le (show _ < 1000 by omega) (by decide), ?_⟩
          replace O := Own.put (u := .lst (zs ++ [.ref q1])) O 1 rfl
          have O2 : Own _ [(D, .lst (zs ++ [.ref q1])), (q, .lst (fs.map V.int)), (p, .lst ys)] _ := Own.fix O
          have s4 := Own.fixS O
          refine ⟨_, _, O2, s3.trans s4, ?_⟩
          rw [take_snoc ml, List.map_append, et]
          exact (hz.same s4).snoc (ns := [2 + (i : Int), 1 + (j : Int), t]) upd_same
        clear O
        rintro H' ⟨B2, zs, O, s3, hz⟩
        rw [List.length_map, List.take_length] at hz
        have zl : zs.length ≤ 201 := by rw [hz.1, List.length_map]; omega
        walk_at "g"
        refine ⟨p, D, ys, zs, rfl, rfl, O.get 2 rfl, O.get 0 rfl, Nat.le_trans (show _ ≤ 10000 by omega) (by decide), ?_⟩
        replace O := Own.put (u := .lst (ys ++ zs)) O 2 rfl
        replace O := O.drop 2
        simp only [List.set, List.drop] at O
        walk_at "g"
        refine ⟨B2, ys ++ zs, _, _, rfl, O, sB.trans s3, ?_⟩
        have e : fitB l (2 + (i : Int)) (1 + (j : Int)) = fs.map fun t => [2 + (i : Int), 1 + (j : Int), t] := by unfold fitB; rw [hf]
        rw [fitRow, ← List.append_assoc, e]
        exact (hr.same s3).app hz
      · clear O hr sB
        rintro σ H' ⟨B, ys, v3, v4, rfl, O, sB, hr⟩
        walk_at "g"
        exact ⟨B, ys, _, _, _, rfl, O, sB, hr⟩
    · clear O
      rintro σ H' ⟨B, ys, v2, v3, v4, rfl, O, sB, hr⟩
      walk_at "g"
      exact h p ys H' (sB.trans O.st) hpH (O.get 0 rfl) (hr.same O.st)

/-! ### law_taken -/
/-- the row of draws as it stands -/
def RowOk (sc : Addr) (o : HO) : Prop := ∃ i s c : Int, o = .lst [.ref sc, .int i, .int s, .int c] ∧ 0 ≤ i ∧ 0 ≤ s ∧ s < 2147483647 ∧ 0 ≤ c
def sp_law_taken (K : Frag) : Sp := fun vs H Q _ => ∃ (row sc : Addr) (o : HO) (ns : List Int) (m : Int), vs = [.ref row, .int m] ∧ H row = some o ∧ RowOk sc o ∧ SqL K H sc (ns.map V.int) ∧ 0 < m ∧ m < 10 ^ 60 ∧
  ∀ (r : Int) (o' : HO) (H' : Hp), 0 ≤ r → r < m → RowOk sc o' → H' row = some o' → (∀ b v, b ≠ row → H b = some v → H' b = some v) → Q (.int r) H'
theorem row_ne {K : Frag} {H : Hp} {row sc : Addr} {o : HO} {ns : List Int} (h : H row = some o) (r : RowOk sc o) (hs : SqL K H sc (ns.map V.int)) : SqL K (del1 H row) sc (ns.map V.int) := by
  obtain ⟨i, s, c, rfl, _⟩ := r
  have d : ∀ ns : List Int, (ns.map V.int) ≠ [.ref sc, .int i, .int s, .int c] := fun ns e => by
    cases ns with
    | nil => cases e
    | cons a l => injection e with e1 _; cases e1
  rcases hs with (hs | ⟨q, hs⟩) | hs
  · have ne : sc ≠ row := fun z => by
      rw [z, h] at hs
      injection hs with e
      injection e with e
      exact d ns e.symm
    exact .inl (.inl (by rw [del1_ne ne]; exact hs))
  · have ne : sc ≠ row := fun z => by
      rw [z, h] at hs
      injection hs with e
      cases e
    exact .inl (.inr ⟨q, by rw [del1_ne ne]; exact hs⟩)
  · exact .inr hs
theorem use_law_taken {K : Frag} {B H : Hp} {Lw : List (Addr × HO)} {row sc : Addr} {o : HO} {ns : List Int} {m : Int} {Q : VK} {E : XK} (O : Own B Lw H) (i : Nat) (hi : Lw[i]? = some (row, o)) (ho : RowOk sc o) (hs : SqL K B sc (ns.map V.int)) (h1 : 0 < m ∧ m < 10 ^ 60)
    (h : ∀ (r : Int) (o' : HO) (H' : Hp), 0 ≤ r → r < m → RowOk sc o' → Own B (Lw.set i (row, o')) H' → Q (.int r) H') : sp_law_taken K ([.ref row, .int m] ++ []) H Q E :=
  ⟨row, sc, o, ns, m, rfl, O.get i hi, ho, O.seq hs, h1.1, h1.2, fun r o' H' hr0 hr1 ho' h1 h2 => h r o' H' hr0 hr1 ho' (O.but i hi h2 h1)⟩
theorem ok_law_taken (T : Txt K mg Z) : FnOk P w K mg base CX0 1 Z.f_law_taken Z.d_law_taken p_law_taken (sp_law_taken K) := by
  refine T.F_law_taken.ok sc_law_taken (fun vs H Q E h => ?_) (fun cdv A outer s H vs Q E hr h => ?_)
  · obtain ⟨_, _, _, _, _, rfl, _⟩ := h; rfl
  · obtain ⟨row, sc, o, ns, m, rfl, hrow, hok, hs, hm0, hm1, h⟩ := h
    have hs1 := row_ne hrow hok hs
    have O := Own.refl1 hrow
    obtain ⟨i, s0, c, rfl, hi0, hs0, hs2, hc0⟩ := hok
    refine ⟨_, (pss_cons (ps_if (pt_cmpR op_gt (pe_ix (r := rIxL K) ix_list (pv 0) pe_int (fun _ _ => rfl)) pe_int (nomark _)) (pss_cons (ps_set (i := 2) sc_law_taken.nd rfl (Or.inl rfl) (pe_op op_mod (pe_callTy call_int1 (by rfl) T.n_int boot_int (pa_cons (pe_ix (r := rIxL K) ix_list (pv 0) pe_int (fun _ _ => rfl)) pa_nil)) (pv 1)))
    (pss_cons (ps_asg (pe_op op_fdivW (pe_ix (r := rIxL K) ix_list (pv 0) pe_int (fun _ _ => rfl)) (pv 1)) (pg_sub (pv 0) pe_int set_list))
    (pss_one (ps_ret (pv 2))))) pss_nil)
    (pss_cons (ps_asg (pe_op op_add (pe_ix (r := rIxL K) ix_list (pv 0) pe_int (fun _ _ => rfl)) pe_int) (pg_sub (pv 0) pe_int set_list))
    (pss_cons (ps_if (pt_cmpR op_gt (pe_ix (r := rIxL K) ix_list (pv 0) pe_int (fun _ _ => rfl)) (pe_callB (r := R.rLen K) call_lenR (by rfl) T.n_len boot_len (pa_cons (pe_ix (r := rIxL K) ix_list (pv 0) pe_int (fun _ _ => rfl)) pa_nil)) (nomark _)) (pss_cons (ps_asg (pe_op op_mod (pe_callTy call_int1 (by rfl) T.n_int boot_int (pa_cons (pe_op op_add (pe_op op_mulX (pe_ix (r := rIxL K) ix_list (pv 0) pe_int (fun _ _ => rfl)) pe_int) pe_int) pa_nil)) pe_int) (pg_sub (pv 0) pe_int set_list))
    (pss_one (ps_ret (pe_op op_mod (pe_callTy call_int1 (by rfl) T.n_int boot_int (pa_cons (pe_op op_fdivW (pe_ix (r := rIxL K) ix_list (pv 0) pe_int (fun _ _ => rfl)) pe_int) pa_nil)) (pv 1))))) pss_nil)
    (pss_cons (ps_set (i := 3) sc_law_taken.nd rfl (Or.inl rfl) (pe_ix (r := rIxL K) ix_list (pe_ix (r := rIxL K) ix_list (pv 0) pe_int (fun _ _ => rfl)) (pe_op op_sub (pe_ix (r := rIxL K) ix_list (pv 0) pe_int (fun _ _ => rfl)) pe_int) (fun _ _ => rfl)))
    (pss_cons (ps_asg (pe_op op_mod (pe_callTy call_int1 (by rfl) T.n_int boot_int (pa_cons (pe_op op_add (pe_op op_add (pe_op op_mulX (pe_ix (r := rIxL K) ix_list (pv 0) pe_int (fun _ _ => rfl)) pe_int) (pv 3)) pe_int) pa_nil)) pe_int) (pg_sub (pv 0) pe_int set_list))
    (pss_cons (ps_if (pt_cmpR op_ge (pv 3) (pe_op op_pow pe_int pe_int) (nomark _)) (pss_one (ps_asg (pe_op op_fdivW (pv 3) (pv 1)) (pg_sub (pv 0) pe_int set_list))) pss_nil)
    (pss_one (ps_ret (pe_op op_mod (pe_callTy call_int1 (by rfl) T.n_int boot_int (pa_cons (pv 3) pa_nil)) (pv 1)))))))))), ?_⟩
    walk_at "g"
    refine a_it2 (fun c1 => ?_) (fun c1 => ?_)
    · walk_at "g"
      refine h _ _ _ (Int.emod_nonneg _ (by omega)) (Int.emod_lt_of_pos _ hm0) ?_ (Own.get (by assumption) 0 rfl) (Own.toBut (by assumption))
      exact ⟨_, _, _, rfl, hi0, hs0, hs2, Int.ediv_nonneg hc0 (by omega)⟩
    · walk_at "g"
      refine a_it2 (fun c2 => ?_) (fun c2 => ?_)
      · walk_at "g"
        refine h _ _ _ (Int.emod_nonneg _ (by omega)) (Int.emod_lt_of_pos _ hm0) ?_ (Own.get (by assumption) 0 rfl) (Own.toBut (by assumption))
        exact ⟨_, _, _, rfl, by omega, by omega, by omega, hc0⟩
      · rw [List.length_map] at c2
        have hlt : i.toNat < ns.length := by omega
        walk_at "g"
        refine a_ixL (v := .int (ns[i.toNat])) (Own.seq (by assumption) hs1) (at0 (j := i.toNat) (by omega) (by rw [List.getElem?_map, List.getElem?_eq_getElem hlt]; rfl)) ?_
        generalize ns[i.toNat] = cell
        walk_at "g"
        refine a_it2 (fun c3 => ?_) (fun c3 => ?_)
        · walk_at "g"
          refine h _ _ _ (Int.emod_nonneg _ (by omega)) (Int.emod_lt_of_pos _ hm0) ?_ (Own.get (by assumption) 0 rfl) (Own.toBut (by assumption))
          exact ⟨_, _, _, rfl, by omega, by omega, by omega, Int.ediv_nonneg (by omega) (by omega)⟩
        · walk_at "g"
          refine h _ _ _ (Int.emod_nonneg _ (by omega)) (Int.emod_lt_of_pos _ hm0) ?_ (Own.get (by assumption) 0 rfl) (Own.toBut (by assumption))
          exact ⟨_, _, _, rfl, by omega, by omega, by omega, hc0⟩

/-! ### law_power -/
def sp_law_power : Sp := fun vs H Q _ => ∃ b m : Int, vs = [.int b, .int m] ∧ -(2 ^ 62) ≤ m ∧ m < 2 ^ 62 ∧ -(2 ^ 64) < b ∧ b < 2 ^ 64 ∧ Q (.int (b ^ m.toNat)) H
theorem use_law_power {b m : Int} {H : Hp} {Q : VK} {E : XK} (h1 : -(2 ^ 62) ≤ m ∧ m < 2 ^ 62 ∧ -(2 ^ 64) < b ∧ b < 2 ^ 64) (h : Q (.int (b ^ m.toNat)) H) : sp_law_power ([.int b, .int m] ++ []) H Q E := ⟨_, _, rfl, h1.1, h1.2.1, h1.2.2.1, h1.2.2.2, h⟩
theorem ok_law_power (T : Txt K mg Z) : FnOk P w K mg base CX0 1 Z.f_law_power Z.d_law_power p_law_power sp_law_power := by
  refine T.F_law_power.ok sc_law_power (fun vs H Q E h => ?_) (fun cdv A outer s H vs Q E hr h => ?_)
  · obtain ⟨_, _, rfl, _⟩ := h; rfl
  · obtain ⟨b, m, rfl, h1, h2, h3, h4, h⟩ := h
    refine ⟨_, (pss_cons (ps_set (i := 2) sc_law_power.nd rfl (Or.inl rfl) pe_int)
    (pss_cons (ps_for PassesOwn.never rfl (pi_range1 rfl T.n_range (pa_cons (pv 1) pa_nil)) (pg_name (i := 3) sc_law_power.nd rfl (Or.inl rfl))
    (pss_one (ps_set (i := 2) sc_law_power.nd rfl (Or.inl rfl) (pe_op op_mulX (pv 2) (pv 0)))))
    (pss_one (ps_ret (pv 2))))), ?_⟩
    walk_at "g"
    refine for_range (fun i σ H' => H' = H ∧ ∃ v, σ = [some (.int b), some (.int m), some (.int (b ^ i)), v]) ⟨rfl, none, by rw [Int.pow_zero]; rfl⟩ ?_ ?_
    · rintro i σ H' hi ⟨rfl, v, rfl⟩
      walk_at "g"
      exact ⟨rfl, _, by rw [Int.pow_succ]; rfl⟩
    · rintro σ H' ⟨rfl, v, rfl⟩
      walk_at "g"
      exact h
-- @USE
local macro_rules | `(tactic| walk_at "c") => `(tactic| ((with_reducible refine use_law_power ?h1 ?h2); (case h1 => omega)))

/-! ### law_trick -/
-- @NEEDS Trick_init
/-- the drawn parts of a trick in a list -/
def toldL (b k t : Int) : HO := .lst [.int b, .int k, .int t]
def Small (sm : Bool) (b k : Int) : Prop := sm = true → b ^ k.toNat ≤ 25
def sp_law_trick (K : Frag) : Sp := fun vs H Q _ => ∃ (row sc : Addr) (o : HO) (ns : List Int) (sm : Bool), vs = [.ref row, .bl sm] ∧ H row = some o ∧ RowOk sc o ∧ SqL K H sc (ns.map V.int) ∧
  ∀ (b k t : Int) (p : Addr) (o' : HO) (H' : Hp), TrickOk b k t → Small sm b k → H p = none → RowOk sc o' → H' row = some o' → H' p = some (toldL b k t) → (∀ b v, b ≠ row → H b = some v → H' b = some v) → Q (.ref p) H'
theorem use_law_trick {K : Frag} {B H : Hp} {Lw : List (Addr × HO)} {row sc : Addr} {o : HO} {ns : List Int} {sm : Bool} {Q : VK} {E : XK} (O : Own B Lw H) (i : Nat) (hi : Lw[i]? = some (row, o)) (ho : RowOk sc o) (hs : SqL K B sc (ns.map V.int))
    (h : ∀ (b k t : Int) (p : Addr) (o' : HO) (H' : Hp), TrickOk b k t → Small sm b k → RowOk sc o' → Own B ((p, toldL b k t) :: Lw.set i (row, o')) H' → Q (.ref p) H') : sp_law_trick K ([.ref row, .bl sm] ++ []) H Q E :=
  ⟨row, sc, o, ns, sm, rfl, O.get i hi, ho, O.seq hs, fun b k t p o' H' h1 h2 hp ho' g1 gp g2 => h b k t p o' H' h1 h2 ho' (Own.butNew O i hi g2 g1 hp gp)⟩
theorem small_of {b k : Int} {sm : Bool} (hb : 2 ≤ b ∧ b ≤ 16) (hk : 1 ≤ k ∧ k ≤ 2) (h : sm = true → 5 < b → k = 1) : Small sm b k := fun e => by
  rcases (show k = 1 ∨ k = 2 by omega) with rfl | rfl
  · have z : b ^ (1 : Int).toNat = b := by rw [show (1 : Int).toNat = 1 from rfl, Int.pow_succ, Int.pow_zero, Int.one_mul]
    rw [z]; omega
  · have z : b ^ (2 : Int).toNat = b * b := by rw [show (2 : Int).toNat = 2 from rfl, Int.pow_succ, Int.pow_succ, Int.pow_zero, Int.one_mul]
    have b5 : b ≤ 5 := by
      by_cases q : 5 < b
      · have := h e q
        omega
      · omega
    rw [z]
    have h2 : b * b ≤ 5 * 5 := Int.mul_le_mul b5 b5 (by omega) (by omega)
    omega
theorem ok_law_trick (T : Txt K mg Z) : FnOk P w K mg base CX0 2 Z.f_law_trick Z.d_law_trick p_law_trick (sp_law_trick K) := by
  refine T.F_law_trick.ok sc_law_trick (fun vs H Q E h => ?_) (fun cdv A outer s H vs Q E hr h => ?_)
  · obtain ⟨_, _, _, _, _, rfl, _⟩ := h; rfl
  · obtain ⟨row, sc, o, ns, sm, rfl, hrow, hok, hs, h⟩ := h
    have hs := row_ne hrow hok hs
    have O := Own.refl1 hrow
    refine ⟨_, (pss_cons (ps_set (i := 2) sc_law_trick.nd rfl (Or.inr rfl) (pe_ix (r := rIxL K) ix_list (pe_lst (pa_cons pe_int (pa_cons pe_int (pa_cons pe_int (pa_cons pe_int (pa_cons pe_int (pa_cons pe_int (pa_cons (pe_op op_add pe_int (pe_call (ok_law_taken T) (hr.mono (by decide)) rfl T.g_law_taken T.F_law_taken.kp T.b_law_taken .nil pass0 (pa_cons (pv 0) (pa_cons pe_int pa_nil)))) pa_nil)))))))) (pe_call (ok_law_taken T) (hr.mono (by decide)) rfl T.g_law_taken T.F_law_taken.kp T.b_law_taken .nil pass0 (pa_cons (pv 0) (pa_cons pe_int pa_nil))) (fun _ _ => rfl)))
    (C8.pss_cut (ps_set (i := 3) sc_law_trick.nd rfl (Or.inr rfl) (pe_ifExp (PW.pt (pw_and (pt_val (pv 1)) (pw_and1 (pt_cmpR op_gt (pv 2) pe_int (nomark _))))) pe_int (pe_op op_add pe_int (pe_call (ok_law_taken T) (hr.mono (by decide)) rfl T.g_law_taken T.F_law_taken.kp T.b_law_taken .nil pass0 (pa_cons (pv 0) (pa_cons pe_int pa_nil))))))
    (pss_cons (ps_set (i := 4) sc_law_trick.nd rfl (Or.inl rfl) (pe_ix (r := rIxL K) ix_list (pe_lst (pa_cons pe_int (pa_cons (pe_un un_neg pe_int) (pa_cons (pe_un un_neg pe_int) (pa_cons pe_int (pa_cons (pe_op op_sub (pe_call (ok_law_taken T) (hr.mono (by decide)) rfl T.g_law_taken T.F_law_taken.kp T.b_law_taken .nil pass0 (pa_cons (pv 0) (pa_cons pe_int pa_nil))) pe_int) (pa_cons (pe_op op_sub (pe_call (ok_law_taken T) (hr.mono (by decide)) rfl T.g_law_taken T.F_law_taken.kp T.b_law_taken .nil pass0 (pa_cons (pv 0) (pa_cons pe_int pa_nil))) pe_int) pa_nil))))))) (pe_call (ok_law_taken T) (hr.mono (by decide)) rfl T.g_law_taken T.F_law_taken.kp T.b_law_taken .nil pass0 (pa_cons (pv 0) (pa_cons pe_int pa_nil))) (fun _ _ => rfl)))
    (C8.pss_cut (ps_if (pt_cmpR op_eq (pe_call (ok_law_taken T) (hr.mono (by decide)) rfl T.g_law_taken T.F_law_taken.kp T.b_law_taken .nil pass0 (pa_cons (pv 0) (pa_cons pe_int pa_nil))) pe_int (nomark _)) (pss_cons (ps_set (i := 5) sc_law_trick.nd rfl (Or.inr rfl) (pe_op op_add pe_int (pe_call (ok_law_taken T) (hr.mono (by decide)) rfl T.g_law_taken T.F_law_taken.kp T.b_law_taken .nil pass0 (pa_cons (pv 0) (pa_cons pe_int pa_nil)))))
    (pss_cons (ps_setLc (i := 6) rfl sc_law_trick.nd rfl rfl (sw_true rfl rfl rfl (by decide +kernel)) (own := [("_law_one", 7)]) (pi_range1 rfl T.n_range (pa_cons (pv 5) pa_nil)) (blkOk_by (N := N_law_trick) (sc := defScope s_law_trick) (by decide +kernel)) (fun _ _ _ _ _ => (pg_name (i := 7) sc_law_trick.nd rfl (Or.inl rfl))) (fun _ _ _ _ _ => (pts_one (pt_cmpR op_eq (pe_op op_mod (pe_op op_mulX (pv 7) (pe_call (ok_law_power T) (hr.mono (by decide)) rfl T.g_law_power T.F_law_power.kp T.b_law_power .nil pass0 (pa_cons (pv 2) (pa_cons (pv 3) pa_nil)))) (pv 5)) pe_int (nomark _)))) (fun _ _ _ _ _ => (pv 7)))
    (pss_one (ps_set (i := 4) sc_law_trick.nd rfl (Or.inl rfl) (pe_ifExp (pt_cmpR (r := rNeD K) (op_neD hr.units) (pv 6) (pe_lst pa_nil) (nomark _)) (pe_op op_sub (pe_ix (r := rIxL K) ix_list (pv 6) pe_int (fun _ _ => rfl)) (pe_op op_mulX (pv 5) (pe_call (ok_law_taken T) (hr.mono (by decide)) rfl T.g_law_taken T.F_law_taken.kp T.b_law_taken .nil pass0 (pa_cons (pv 0) (pa_cons pe_int pa_nil))))) (pv 4)))))) pss_nil)
    (pss_one (ps_ret (pe_lst (pa_cons (pv 2) (pa_cons (pv 3) (pa_cons (pv 4) pa_nil)))))))))), ?_⟩
    walk_at "g"
    refine use_law_taken O 0 rfl hok hs (by omega) (fun y o H1 hy0 hy1 hok O => ?_)
    walk_at "g"; walk_at "mkL"; intro p H2 hp O
    walk_at "g"
    refine use_law_taken O 1 rfl hok hs (by omega) (fun z o H3 hz0 hz1 hok O => ?_)
    walk_at "g"
    refine a_ixM (ms := [10, 2, 3, 7, 8, 16, 2 + y]) O 0 rfl hz0 hz1 (fun b hb => ?_)
    have hb : 2 ≤ b ∧ b ≤ 16 := by
      simp only [List.mem_cons, List.not_mem_nil, or_false] at hb
      omega
    replace O := O.tail
    walk_at "g"
    -- how many figures
    refine ⟨fun σ H' => ∃ (k : Int) (o : HO) (v4 v5 v6 v7 : Option V), σ = [some (.ref row), some (.bl sm), some (.int b), some (.int k), v4, v5, v6, v7] ∧ (1 ≤ k ∧ k ≤ 2) ∧ (sm = true → 5 < b → k = 1) ∧ RowOk sc o ∧ Own (del1 H row) [(row, o)] H', ?_, ?_⟩
    · walk_at "g"
      refine a_itB (fun e1 => ?_) (fun e1 => ?_)
      · walk_at "g"
        refine a_it2 (fun c => ?_) (fun c => ?_)
        · walk_at "g"
          exact ⟨1, o, _, _, _, _, rfl, by omega, fun _ _ => rfl, hok, O⟩
        · walk_at "g"
          refine use_law_taken O 0 rfl hok hs (by omega) (fun x o H4 hx0 hx1 hok O => ?_)
          walk_at "g"
          exact ⟨_, o, _, _, _, _, rfl, by omega, fun _ q => absurd q c, hok, O⟩
      · walk_at "g"
        refine use_law_taken O 0 rfl hok hs (by omega) (fun x o H4 hx0 hx1 hok O => ?_)
        walk_at "g"
        exact ⟨_, o, _, _, _, _, rfl, by omega, fun q => (by rw [e1] at q; cases q), hok, O⟩
    · clear O hok
      rintro σ H' ⟨k, o, v4, v5, v6, v7, rfl, hk, hsm, hok, O⟩
      walk_at "g"
      refine use_law_taken O 0 rfl hok hs (by omega) (fun t1 o H1 ht10 ht11 hok O => ?_)
      walk_at "g"
      refine use_law_taken O 0 rfl hok hs (by omega) (fun t2 o H1 ht20 ht21 hok O => ?_)
      walk_at "g"; walk_at "mkL"; intro p2 H4 hp2 O
      walk_at "g"
      refine use_law_taken O 1 rfl hok hs (by omega) (fun z2 o H5 hz20 hz21 hok O => ?_)
      walk_at "g"
      refine a_ixM (ms := [1, -1, -2, 0, t1 - 10, t2 - 100]) O 0 rfl hz20 hz21 (fun t ht => ?_)
      have ht : -100 ≤ t ∧ t ≤ 100 := by
        simp only [List.mem_cons, List.not_mem_nil, or_false] at ht
        omega
      replace O := O.tail
      walk_at "g"
      refine ⟨fun σ H' => ∃ (t : Int) (o : HO) (v5 v6 v7 : Option V), σ = [some (.ref row), some (.bl sm), some (.int b), some (.int k), some (.int t), v5, v6, v7] ∧ (-100 ≤ t ∧ t ≤ 100) ∧ RowOk sc o ∧ Own (del1 H row) [(row, o)] H', ?_, ?_⟩
      · walk_at "g"
        refine use_law_taken O 0 rfl hok hs (by omega) (fun x o H6 hx0 hx1 hok O => ?_)
        walk_at "g"
        refine a_it2 (fun c => ?_) (fun c => ?_)
        · walk_at "g"
          refine use_law_taken O 0 rfl hok hs (by omega) (fun d o H7 hd0 hd1 hok O => ?_)
          walk_at "g"
          intro D hD
          replace O := Own.new (o := .lst []) O hD
          refine lc_range (fun i H' => ∃ fs : List Int, (∀ x ∈ fs, 0 ≤ x ∧ x < 2 + d) ∧ fs.length ≤ i ∧ Own (del1 H row) [(D, .lst (fs.map V.int)), (row, o)] H') ⟨[], fun _ h => by simp at h, Nat.le_refl 0, O⟩ ?_ ?_
          · clear O
            rintro i H' hi ⟨fs, hf, hl, O⟩
            walk_at "g"
            refine ⟨rfl, ?_⟩
            have bs := block_small hb hk
            walk_at "g"
            refine a_it2 (fun c2 => ?_) (fun c2 => ?_)
            · walk_at "g"
              refine ⟨_, Own.get O 0 rfl, ?_, ?_⟩
              · rw [List.length_map]
                exact Nat.lt_of_lt_of_le (by omega : fs.length < 1000) (by decide)
              · replace O := Own.put (u := .lst (fs.map V.int ++ [.int (0 + (i : Int))])) O 0 rfl
                refine ⟨fs ++ [0 + (i : Int)], fun y hy => ?_, by rw [List.length_append, List.length_singleton]; omega, ?_⟩
                · rcases List.mem_append.mp hy with z | z
                  · exact hf y z
                  · have e : y = 0 + (i : Int) := by simpa using z
                    omega
                · rw [List.map_append]
                  exact O
            · exact ⟨fs, hf, by omega, O⟩
          · clear O
            rintro H' ⟨fs, hf, hl, O⟩
            walk_at "g"; walk_at "mkL"; intro e He hee O
            walk_at "g"
            cases fs with
            | nil =>
              refine a_neL (ns := []) (Own.sq O 1 rfl) (Own.sq O 0 rfl) ?_
              walk_at "g"
              exact ⟨t, o, _, _, _, rfl, ht, hok, O.tail.tail⟩
            | cons f fs =>
              refine a_neD' (d := pyL (f :: fs)) (e := pyL []) (dp_pyL (Own.sq O 1 rfl)) (dp_pyL (ns := []) (Own.sq O 0 rfl)) (can_pyL _) (Nat.le_trans (dep_pyL _) (by decide)) (can_pyL _) (Nat.le_trans (dep_pyL _) (by decide)) rfl ?_
              have hf0 := hf f List.mem_cons_self
              replace O := O.tail
              walk_at "g"
              refine a_ixI (ms := f :: fs) O 0 rfl (Int.le_refl 0) (Nat.zero_lt_succ _) ?_
              walk_at "g"
              refine use_law_taken O 1 rfl hok hs (by omega) (fun x2 o H8 hx20 hx21 hok O => ?_)
              walk_at "g"
              refine ⟨_, o, _, _, _, rfl, ?_, hok, O.tail⟩
              rcases (show x2 = 0 ∨ x2 = 1 by omega) with rfl | rfl
              · show -100 ≤ f - (2 + d) * 0 ∧ f - (2 + d) * 0 ≤ 100
                rw [Int.mul_zero]; omega
              · show -100 ≤ f - (2 + d) * 1 ∧ f - (2 + d) * 1 ≤ 100
                rw [Int.mul_one]; omega
        · walk_at "g"
          exact ⟨t, o, _, _, _, rfl, ht, hok, O⟩
      · clear O hok
        rintro σ H' ⟨t, o, v5, v6, v7, rfl, ht, hok, O⟩
        walk_at "g"; walk_at "mkL"; intro q H6 hq O
        exact h b k t q o H6 ⟨hb, hk, ht⟩ (small_of hb hk hsm) (Own.was (by assumption : Own (del1 H row) [(row, o)] H') hrow ⟨0, o, rfl⟩ hq) hok (O.get 1 rfl) (O.get 0 rfl) (Own.toBut O)

/-! ### law_behind -/
-- @NEEDS Trick_init law_trick
theorem lbeh_is {b k n : Int} (hb : 2 ≤ b ∧ b ≤ 16) (hk : 1 ≤ k ∧ k ≤ 2) : (n - n % b ^ k.toNat) / b ^ k.toNat = n / b ^ k.toNat := by
  have bs := block_small hb hk
  generalize b ^ k.toNat = m at *
  have e : n - n % m = m * (n / m) := by
    have q := Int.mul_ediv_add_emod n m
    omega
  rw [e]
  exact Int.mul_ediv_cancel_left _ (by omega)
theorem pow1 (b : Int) : b ^ (1 : Int).toNat = b := by rw [show (1 : Int).toNat = 1 from rfl, Int.pow_succ, Int.pow_zero, Int.one_mul]
theorem pow2 (b : Int) : b ^ (2 : Int).toNat = b * b := by rw [show (2 : Int).toNat = 2 from rfl, Int.pow_succ, Int.pow_succ, Int.pow_zero, Int.one_mul]
def sp_law_behind (K : Frag) : Sp := fun vs H Q _ => ∃ (a : Addr) (b k t n : Int), vs = [.ref a, .int n] ∧ SqL K H a [.int b, .int k, .int t] ∧ TrickOk b k t ∧ Q (.int (n / b ^ k.toNat + t * (n % b ^ k.toNat))) H
theorem ok_law_behind (T : Txt K mg Z) : FnOk P w K mg base CX0 1 Z.f_law_behind Z.d_law_behind p_law_behind (sp_law_behind K) := by
  refine T.F_law_behind.ok sc_law_behind (fun vs H Q E h => ?_) (fun cdv A outer s H vs Q E hr h => ?_)
  · obtain ⟨_, _, _, _, _, rfl, _⟩ := h; rfl
  · obtain ⟨a, b, k, t, n, rfl, ha, ⟨hb, hk, ht⟩, h⟩ := h
    refine ⟨_, (pss_cons (ps_asg (pv 0) (pg_lst rfl (pgs_cons (pg_name (i := 2) sc_law_behind.nd rfl (Or.inl rfl)) (pgs_cons (pg_name (i := 3) sc_law_behind.nd rfl (Or.inl rfl)) (pgs_cons (pg_name (i := 4) sc_law_behind.nd rfl (Or.inl rfl)) pgs_nil)))))
    (pss_cons (ps_set (i := 5) sc_law_behind.nd rfl (Or.inl rfl) (pe_ifExp (pt_cmpR op_eq (pv 3) pe_int (nomark _)) (pv 2) (pe_op op_mulX (pv 2) (pv 2))))
    (pss_cons (ps_set (i := 6) sc_law_behind.nd rfl (Or.inl rfl) (pe_op op_mod (pv 1) (pv 5)))
    (pss_one (ps_ret (pe_op op_add (pe_op op_fdivW (pe_op op_sub (pv 1) (pv 6)) (pv 5)) (pe_op op_mulX (pv 4) (pv 6)))))))), ?_⟩
    have bs := block_small hb hk
    have eb := lbeh_is (n := n) hb hk
    walk_at "h"
    refine a_it2 (fun c => ?_) (fun c => ?_)
    · have ek : k = 1 := by omega
      subst ek
      rw [pow1] at h bs eb
      walk_at "g"
      rw [eb]
      exact h
    · have ek : k = 2 := by omega
      subst ek
      rw [pow2] at h bs eb
      have e2 : 0 < b * b := by omega
      walk_at "g"
      rw [eb]
      exact h

/-! ### law_number -/
def sp_law_number (K : Frag) : Sp := fun vs H Q _ => ∃ (row sc : Addr) (o : HO) (ns : List Int), vs = [.ref row] ∧ H row = some o ∧ RowOk sc o ∧ SqL K H sc (ns.map V.int) ∧
  ∀ (n : Int) (o' : HO) (H' : Hp), -(10 ^ 40) ≤ n → n ≤ 10 ^ 40 → RowOk sc o' → H' row = some o' → (∀ b v, b ≠ row → H b = some v → H' b = some v) → Q (.int n) H'
theorem use_law_number {K : Frag} {B H : Hp} {Lw : List (Addr × HO)} {row sc : Addr} {o : HO} {ns : List Int} {Q : VK} {E : XK} (O : Own B Lw H) (i : Nat) (hi : Lw[i]? = some (row, o)) (ho : RowOk sc o) (hs : SqL K B sc (ns.map V.int))
    (h : ∀ (n : Int) (o' : HO) (H' : Hp), -(10 ^ 40) ≤ n → n ≤ 10 ^ 40 → RowOk sc o' → Own B (Lw.set i (row, o')) H' → Q (.int n) H') : sp_law_number K ([.ref row] ++ []) H Q E :=
  ⟨row, sc, o, ns, rfl, O.get i hi, ho, O.seq hs, fun n o' H' h1 h2 ho' g1 g2 => h n o' H' h1 h2 ho' (O.but i hi g2 g1)⟩
theorem ok_law_number (T : Txt K mg Z) : FnOk P w K mg base CX0 2 Z.f_law_number Z.d_law_number p_law_number (sp_law_number K) := by
  refine T.F_law_number.ok sc_law_number (fun vs H Q E h => ?_) (fun cdv A outer s H vs Q E hr h => ?_)
  · obtain ⟨_, _, _, _, rfl, _⟩ := h; rfl
  · obtain ⟨row, sc, o, ns, rfl, hrow, hok, hs, h⟩ := h
    have hs := row_ne hrow hok hs
    have O := Own.refl1 hrow
    refine ⟨_, (pss_cons (ps_set (i := 1) sc_law_number.nd rfl (Or.inl rfl) (pe_ix (r := rIxL K) ix_list (pe_lst (pa_cons pe_int (pa_cons pe_int (pa_cons (pe_op op_pow pe_int pe_int) (pa_cons (pe_op op_pow pe_int pe_int) pa_nil))))) (pe_call (ok_law_taken T) (hr.mono (by decide)) rfl T.g_law_taken T.F_law_taken.kp T.b_law_taken .nil pass0 (pa_cons (pv 0) (pa_cons pe_int pa_nil))) (fun _ _ => rfl)))
    (pss_cons (ps_set (i := 2) sc_law_number.nd rfl (Or.inl rfl) (pe_ifExp (pt_cmpR op_gt (pe_call (ok_law_taken T) (hr.mono (by decide)) rfl T.g_law_taken T.F_law_taken.kp T.b_law_taken .nil pass0 (pa_cons (pv 0) (pa_cons pe_int pa_nil))) pe_int (nomark _)) (pe_call (ok_law_taken T) (hr.mono (by decide)) rfl T.g_law_taken T.F_law_taken.kp T.b_law_taken .nil pass0 (pa_cons (pv 0) (pa_cons (pe_op op_add (pv 1) pe_int) pa_nil))) (pv 1)))
    (pss_one (ps_ret (pe_ifExp (pt_cmpR op_gt (pe_call (ok_law_taken T) (hr.mono (by decide)) rfl T.g_law_taken T.F_law_taken.kp T.b_law_taken .nil pass0 (pa_cons (pv 0) (pa_cons pe_int pa_nil))) pe_int (nomark _)) (pv 2) (pe_un un_neg (pv 2))))))), ?_⟩
    walk_at "g"; walk_at "mkL"; intro p H1 hp O
    walk_at "g"
    refine use_law_taken O 1 rfl hok hs (by omega) (fun z o H2 hz0 hz1 hok O => ?_)
    walk_at "g"
    refine a_ixM (ms := [9, 200, 10 ^ 6, 10 ^ 40]) O 0 rfl hz0 hz1 (fun sz hsz => ?_)
    have hsz : sz = 9 ∨ sz = 200 ∨ sz = 10 ^ 6 ∨ sz = 10 ^ 40 := by simpa using hsz
    have O := O.tail
    walk_at "g"
    refine use_law_taken O 0 rfl hok hs (by omega) (fun y o H3 hy0 hy1 hok O => ?_)
    walk_at "g"
    refine a_it2 (fun c => ?_) (fun c => ?_)
    · walk_at "g"
      refine use_law_taken O 0 rfl hok hs (by omega) (fun n o H4 hn0 hn1 hok O => ?_)
      walk_at "g"
      refine use_law_taken O 0 rfl hok hs (by omega) (fun y2 o H5 hy20 hy21 hok O => ?_)
      walk_at "g"
      refine a_it2 (fun c => ?_) (fun c => ?_)
      · walk_at "g"
        exact h _ _ _ (by omega) (by omega) hok (Own.get O 0 rfl) (Own.toBut O)
      · walk_at "g"
        exact h _ _ _ (by omega) (by omega) hok (Own.get O 0 rfl) (Own.toBut O)
    · walk_at "g"
      refine use_law_taken O 0 rfl hok hs (by omega) (fun y2 o H5 hy20 hy21 hok O => ?_)
      walk_at "g"
      refine a_it2 (fun c => ?_) (fun c => ?_)
      · walk_at "g"
        exact h _ _ _ (by omega) (by omega) hok (Own.get O 0 rfl) (Own.toBut O)
      · walk_at "g"
        exact h _ _ _ (by omega) (by omega) hok (Own.get O 0 rfl) (Own.toBut O)

/-! ### law_tricks -/
-- @NEEDS Trick_init need_tricks
/-- the drawn parts of tricks in a list -/
def toldT (x : Tr) : HO := .lst [.int x.1, .int x.2.1, .int x.2.2]
def ToldAt (H : Hp) (a : Addr) (l : List Tr) : Prop := ∃ xs : List V, H a = some (.lst xs) ∧ xs.length = l.length ∧ (∀ x ∈ l, TrOk x) ∧ ∀ (i : Nat) (x : V), xs[i]? = some x → ∃ (q : Addr) (y : Tr), l[i]? = some y ∧ x = .ref q ∧ H q = some (toldT y)
theorem ToldAt.same {B H : Hp} {a : Addr} {l : List Tr} (s : Same B H) (h : ToldAt B a l) : ToldAt H a l := by
  obtain ⟨xs, h1, h2, h3, h4⟩ := h
  refine ⟨xs, s _ _ h1, h2, h3, fun i x hi => ?_⟩
  obtain ⟨q, y, e1, e2, e3⟩ := h4 i x hi
  exact ⟨q, y, e1, e2, s _ _ e3⟩
def sp_law_tricks (Z : Adr) : Sp := fun vs H Q _ => ∃ (a : Addr) (l : List Tr), vs = [.ref a] ∧ ToldAt H a l ∧ l.length ≤ 4 ∧
  ∀ (p : Addr) (xs : List V) (H' : Hp), Same H H' → H p = none → H' p = some (.lst xs) → TricksAt Z H' p l → Q (.ref p) H'
theorem snoc_at {α : Type} {xs : List α} {v x : α} {i : Nat} (h : (xs ++ [v])[i]? = some x) : (i < xs.length ∧ xs[i]? = some x) ∨ (i = xs.length ∧ x = v) := by
  by_cases c : i < xs.length
  · rw [List.getElem?_append_left c] at h
    exact .inl ⟨c, h⟩
  · rw [List.getElem?_append_right (by omega)] at h
    have z : i - xs.length = 0 := by
      by_cases z : i - xs.length = 0
      · exact z
      · rw [List.getElem?_eq_none (by rw [List.length_singleton]; omega)] at h
        cases h
    rw [z] at h
    exact .inr ⟨by omega, (Option.some.inj h).symm⟩
def ToldL (B : Hp) (xs : List V) (l : List Tr) : Prop := xs.length = l.length ∧ ∀ (i : Nat) (x : V), xs[i]? = some x → ∃ (q : Addr) (y : Tr), l[i]? = some y ∧ x = .ref q ∧ B q = some (toldT y)
theorem ToldL.same {B B' : Hp} {xs : List V} {l : List Tr} (s : Same B B') (h : ToldL B xs l) : ToldL B' xs l := ⟨h.1, fun i x hi => by
  obtain ⟨q, y, e1, e2, e3⟩ := h.2 i x hi
  exact ⟨q, y, e1, e2, s _ _ e3⟩⟩
theorem ToldL.snoc {B : Hp} {xs : List V} {l : List Tr} {q : Addr} {y : Tr} (h : ToldL B xs l) (hq : B q = some (toldT y)) : ToldL B (xs ++ [.ref q]) (l ++ [y]) := by
  refine ⟨by rw [List.length_append, List.length_append, h.1]; rfl, fun i x hi => ?_⟩
  rcases snoc_at hi with ⟨c, hi⟩ | ⟨rfl, rfl⟩
  · obtain ⟨q', y', f1, f2, f3⟩ := h.2 i x hi
    exact ⟨q', y', by rw [List.getElem?_append_left (by rw [← h.1]; exact c)]; exact f1, f2, f3⟩
  · exact ⟨q, y, by rw [h.1, List.getElem?_append_right (Nat.le_refl _), Nat.sub_self]; rfl, rfl, hq⟩
theorem told_at {B : Hp} {xs : List V} {l : List Tr} (h : ToldL B xs l) {i : Nat} {x : V} (hi : xs[i]? = some x) : ∃ (hl : i < l.length) (q : Addr), x = .ref q ∧ B q = some (toldT l[i]) := by
  obtain ⟨q, y, e1, e2, e3⟩ := h.2 i x hi
  obtain ⟨hl, e⟩ := List.getElem?_eq_some_iff.mp e1
  exact ⟨hl, q, e2, by rw [e]; exact e3⟩
theorem ok_law_tricks (T : Txt K mg Z) : FnOk P w K mg base CX0 5 Z.f_law_tricks Z.d_law_tricks p_law_tricks (sp_law_tricks Z) := by
  refine T.F_law_tricks.ok sc_law_tricks (fun vs H Q E h => ?_) (fun cdv A outer s H vs Q E hr h => ?_)
  · obtain ⟨_, _, rfl, _⟩ := h; rfl
  · obtain ⟨a, l, rfl, ⟨xs, hxs, hl, hok, hx⟩, hl4, h⟩ := h
    have O := Own.refl H
    refine ⟨_, (pss_one (ps_ret (pe_lc (own := [("_law_base", 1), ("_law_take", 2), ("_law_times", 3)]) (tt := tYes) rfl sc_law_tricks.nd (pi_list (pv 0)) (blkOk_by (N := N_law_tricks) (sc := defScope s_law_tricks) (by decide +kernel)) (fun _ _ _ _ _ => (pg_lstK (K := K) (n := 3) rfl (pgs_cons (pg_name (i := 1) sc_law_tricks.nd rfl (Or.inl rfl)) (pgs_cons (pg_name (i := 2) sc_law_tricks.nd rfl (Or.inl rfl)) (pgs_cons (pg_name (i := 3) sc_law_tricks.nd rfl (Or.inl rfl)) pgs_nil))))) (fun _ _ _ _ _ => pts_nil) (fun _ _ _ _ _ => (pe_make T.M_Trick (ok_Trick_init T) (hr.mono (by decide)) rfl T.g_Trick T.b_Trick_init .nil pass0 (pa_cons (pv 1) (pa_cons (pv 2) (pa_cons (pv 3) pa_nil)))))))), ?_⟩
    walk_at "g"
    refine ⟨a, rfl, ⟨xs, SqL.of hxs⟩, fun D hD => ?_⟩
    replace O := Own.new (o := .lst []) O hD
    refine lc_list (xs := xs) (fun i H' => ∃ (B : Hp) (ys : List V), Own B [(D, .lst ys)] H' ∧ Same H B ∧ ys.length = i ∧ ∀ (j : Nat) (x : V), ys[j]? = some x → ∃ (q : Addr) (y : Tr), l[j]? = some y ∧ x = .ref q ∧ TrickAt Z B q y.1 y.2.1 y.2.2) ⟨H, [], O, Same.refl H, rfl, fun j x e => by simp at e⟩ (fun i H' _ ⟨B, ys, O, sB, _⟩ => SqL.of (O.st _ _ (sB _ _ hxs))) ?_ ?_
    · clear O
      rintro i x H' hi ⟨B, ys, O, sB, hyl, hy⟩
      obtain ⟨q, y, e1, rfl, hq⟩ := hx i x hi
      obtain ⟨il, ey⟩ := List.getElem?_eq_some_iff.mp e1
      have yok := hok y (by rw [← ey]; exact List.getElem_mem il)
      refine a_glst (SqL.of (O.st _ _ (sB _ _ hq))) rfl ?_
      walk_at "g"
      refine ⟨rfl, ?_⟩
      walk_at "g"
      refine use_Trick O yok (fun t B' H' ht sB' O ha => ?_)
      have ys2 : ys.length < sizeLine := Nat.lt_of_lt_of_le (show ys.length < 1000 by omega) (by decide)
      refine ⟨_, O.get 0 rfl, ys2, ?_⟩
      replace O := Own.put (u := .lst (ys ++ [.ref t])) O 0 rfl
      refine ⟨B', _, O, sB.trans sB', by rw [List.length_append, List.length_singleton, hyl], fun j x hj => ?_⟩
      rcases snoc_at hj with ⟨_, hj⟩ | ⟨rfl, rfl⟩
      · obtain ⟨q', y', f1, f2, f3⟩ := hy j x hj
        exact ⟨q', y', f1, f2, f3.same sB'⟩
      · exact ⟨t, y, by rw [hyl]; exact e1, rfl, ha⟩
    · clear O
      rintro H' ⟨B, ys, O, sB, hyl, hy⟩
      refine h D ys H' (sB.trans O.toSame) hD (O.get 0 rfl) ⟨ys, .inl (O.get 0 rfl), by omega, hok, fun j x hj => ?_⟩
      obtain ⟨q', y', f1, f2, f3⟩ := hy j x hj
      exact ⟨q', y', f1, f2, f3.same O.toSame⟩

/-! ### law_chain -/
-- @NEEDS law_trick law_tricks law_power
structure ChainOk (l : List Tr) (w : Int) : Prop where
  ok : ∀ x ∈ l, TrOk x
  wide : w = wideA l
  most : w ≤ 300
theorem ChainOk.snoc {l : List Tr} {w : Int} (h : ChainOk l w) {x : Tr} (hx : TrOk x) (hw : w * blk x ≤ 300) : ChainOk (l ++ [x]) (w * blk x) := by
  refine ⟨fun y hy => ?_, ?_, hw⟩
  · rcases List.mem_append.mp hy with z | z
    · exact h.ok y z
    · rw [List.mem_singleton] at z
      rw [z]; exact hx
  · rw [wideA_snoc, h.wide]
def sp_law_chain (K : Frag) : Sp := fun vs H Q _ => ∃ (row sc : Addr) (o : HO) (ns : List Int), vs = [.ref row] ∧ H row = some o ∧ RowOk sc o ∧ SqL K H sc (ns.map V.int) ∧
  ∀ (l : List Tr) (xs : List V) (p : Addr) (o' : HO) (B H' : Hp), (∀ x ∈ l, TrOk x) → (1 ≤ l.length ∧ l.length ≤ 4) → wideA l ≤ 300 → Same (del1 H row) B → ToldL B xs l → RowOk sc o' → Own B [(p, .lst xs), (row, o')] H' → Q (.ref p) H'
theorem ok_law_chain (T : Txt K mg Z) : FnOk P w K mg base CX0 3 Z.f_law_chain Z.d_law_chain p_law_chain (sp_law_chain K) := by
  refine T.F_law_chain.ok sc_law_chain (fun vs H Q E h => ?_) (fun cdv A outer s H vs Q E hr h => ?_)
  · obtain ⟨_, _, _, _, rfl, _⟩ := h; rfl
  · obtain ⟨row, sc, o, ns, rfl, hrow, hok, hs, h⟩ := h
    have hs := row_ne hrow hok hs
    have O := Own.refl1 hrow
    refine ⟨_, (pss_cons (ps_par (i := 1) (j := 2) (by rfl) sc_law_chain.nd rfl rfl (by decide) rfl rfl (pa_cons (pe_lst pa_nil) (pa_cons pe_int pa_nil)) (by rfl))
    (pss_cons (ps_for PassesOwn.never rfl (pi_range1 rfl T.n_range (pa_cons (pe_op op_add pe_int (pe_call (ok_law_taken T) (hr.mono (by decide)) rfl T.g_law_taken T.F_law_taken.kp T.b_law_taken .nil pass0 (pa_cons (pv 0) (pa_cons pe_int pa_nil)))) pa_nil)) (pg_name (i := 3) sc_law_chain.nd rfl (Or.inl rfl))
    (pss_cons (ps_set (i := 4) sc_law_chain.nd rfl (Or.inl rfl) (pe_call (ok_law_trick T) (hr.mono (by decide)) rfl T.g_law_trick T.F_law_trick.kp T.b_law_trick .nil pass0 (pa_cons (pv 0) (pa_cons pe_bl pa_nil))))
    (C8.pss_cut (ps_if (pt_cmpR op_eq (pe_call (ok_law_taken T) (hr.mono (by decide)) rfl T.g_law_taken T.F_law_taken.kp T.b_law_taken .nil pass0 (pa_cons (pv 0) (pa_cons pe_int pa_nil))) pe_int (nomark _)) (pss_one (ps_set (i := 4) sc_law_chain.nd rfl (Or.inl rfl) (pe_lst (pa_cons (pe_op op_add pe_int (pe_call (ok_law_taken T) (hr.mono (by decide)) rfl T.g_law_taken T.F_law_taken.kp T.b_law_taken .nil pass0 (pa_cons (pv 0) (pa_cons pe_int pa_nil)))) (pa_cons pe_int (pa_cons (pe_op op_sub (pe_call (ok_law_taken T) (hr.mono (by decide)) rfl T.g_law_taken T.F_law_taken.kp T.b_law_taken .nil pass0 (pa_cons (pv 0) (pa_cons pe_int pa_nil))) pe_int) pa_nil)))))) pss_nil)
    (pss_one (ps_if (pt_cmpR op_le (pe_op op_mulX (pv 2) (pe_call (ok_law_power T) (hr.mono (by decide)) rfl T.g_law_power T.F_law_power.kp T.b_law_power .nil pass0 (pa_cons (pe_ix (r := rIxL K) ix_list (pv 4) pe_int (fun _ _ => rfl)) (pa_cons (pe_ix (r := rIxL K) ix_list (pv 4) pe_int (fun _ _ => rfl)) pa_nil)))) pe_int (nomark _)) (pss_cons (ps_set (i := 2) sc_law_chain.nd rfl (Or.inl rfl) (pe_op op_mulX (pv 2) (pe_call (ok_law_power T) (hr.mono (by decide)) rfl T.g_law_power T.F_law_power.kp T.b_law_power .nil pass0 (pa_cons (pe_ix (r := rIxL K) ix_list (pv 4) pe_int (fun _ _ => rfl)) (pa_cons (pe_ix (r := rIxL K) ix_list (pv 4) pe_int (fun _ _ => rfl)) pa_nil)))))
    (pss_one (ps_expr (pe_bm PySem.F.plainAttrs_list PySem.F.slot_list_append PySem.F.type_list_append mt_append (pv 1) (pa_cons (pv 4) pa_nil))))) pss_nil)))))
    (pss_one (ps_ret (pv 1))))), ?_⟩
    walk_at "g"; walk_at "mkL"; intro p H2 hp O
    walk_at "g"
    refine use_law_taken O 1 rfl hok hs (by omega) (fun m o H1 hm0 hm1 hok O => ?_)
    walk_at "g"
    refine for_range (fun i σ H' => ∃ (v3 v4 : Option V) (l : List Tr) (w : Int) (xs : List V) (o : HO) (B : Hp), σ = [some (.ref row), some (.ref p), some (.int w), v3, v4] ∧ ChainOk l w ∧ l.length ≤ i ∧ (0 < i → 1 ≤ l.length) ∧ Same (del1 H row) B ∧ ToldL B xs l ∧ RowOk sc o ∧ Own B [(p, .lst xs), (row, o)] H')
      ⟨none, none, [], 1, [], o, _, rfl, ⟨fun x h => absurd h List.not_mem_nil, rfl, by decide⟩, Nat.le_refl _, fun z => absurd z (Nat.lt_irrefl 0), Same.refl _, ⟨rfl, fun i x h => by simp at h⟩, hok, O⟩ ?_ ?_
    · clear O hok
      rintro i σ H' hi ⟨v3, v4, l, w, xs, o, B, rfl, ch, hl1, hl2, sB, tl, hok, O⟩
      walk_at "g"
      refine use_law_trick O 1 rfl hok (sB.seq hs) (fun b k t q o H2 tk _ hok O => ?_)
      walk_at "g"
      refine ⟨fun σ H' => ∃ (v3 : Option V) (y : Tr) (q : Addr) (o : HO) (B' : Hp), σ = [some (.ref row), some (.ref p), some (.int w), v3, some (.ref q)] ∧ TrOk y ∧ Same B B' ∧ B' q = some (toldT y) ∧ RowOk sc o ∧ Own B' [(p, .lst xs), (row, o)] H', ?_, ?_⟩
      · walk_at "g"
        refine use_law_taken O 2 rfl hok (sB.seq hs) (by omega) (fun c0 o H3 _ _ hok O => ?_)
        walk_at "g"
        refine a_it2 (fun c => ?_) (fun c => ?_)
        · walk_at "g"
          refine use_law_taken O 2 rfl hok (sB.seq hs) (by omega) (fun c1 o H3 hc0 hc1 hok O => ?_)
          walk_at "g"
          refine use_law_taken O 2 rfl hok (sB.seq hs) (by omega) (fun c2 o H3 hd0 hd1 hok O => ?_)
          walk_at "g"; walk_at "mkL"; intro q2 H4 hq2 O
          walk_at "g"
          have O2 := Own.fix O
          have s2 := Own.fixS O
          have yok : TrOk (2 + c1, 1, c2 - 4) := (by omega : (2 ≤ 2 + c1 ∧ 2 + c1 ≤ 16) ∧ ((1 : Int) ≤ 1 ∧ (1 : Int) ≤ 2) ∧ -100 ≤ c2 - 4 ∧ c2 - 4 ≤ 100)
          exact ⟨_, (2 + c1, 1, c2 - 4), q2, o, _, rfl, yok, s2, upd_same, hok, O2.tail⟩
        · walk_at "g"
          exact ⟨_, (b, k, t), q, o, _, rfl, tk, Own.fixS O, upd_same, hok, Own.fix O⟩
      · clear O hok tk
        rintro σ H' ⟨v3, y, q, o, B', rfl, yok, sB', hq, hok, O⟩
        obtain ⟨⟨y1, y2⟩, ⟨y3, y4⟩, y5⟩ := yok
        have bs := block_small ⟨y1, y2⟩ ⟨y3, y4⟩
        have hq' : SqL K B' q [.int y.1, .int y.2.1, .int y.2.2] := SqL.of hq
        have w0 := wideA_pos ch.ok
        rw [← ch.wide] at w0
        have w1 := ch.most
        have hxl : xs.length = l.length := tl.1
        walk_at "g"
        refine a_it2 (fun c => ?_) (fun c => ?_)
        · walk_at "g"
          refine ⟨.inl ⟨rfl, _, Own.sq O 0 rfl⟩, ?_⟩
          walk_at "g"
          refine a_app O 0 rfl (by omega) (fun H3 O => ?_)
          have O : Own B' [(p, .lst (xs ++ [V.ref q])), (row, o)] H3 := O
          exact ⟨_, _, l ++ [y], _, xs ++ [V.ref q], o, B', rfl, ch.snoc ⟨⟨y1, y2⟩, ⟨y3, y4⟩, y5⟩ c, by rw [List.length_append, List.length_singleton]; omega, fun _ => by rw [List.length_append, List.length_singleton]; omega, Same.trans sB sB', ToldL.snoc (tl.same sB') hq, hok, O⟩
        · walk_at "g"
          refine ⟨_, _, l, w, xs, o, B', rfl, ch, by omega, fun _ => ?_, Same.trans sB sB', tl.same sB', hok, O⟩
          cases l with
          | nil =>
            have e : w = 1 := ch.wide
            rw [e, Int.one_mul] at c
            omega
          | cons x l => exact Nat.succ_pos _
    · clear O hok
      rintro σ H' ⟨v3, v4, l, w, xs, o, B, rfl, ch, hl1, hl2, sB, tl, hok, O⟩
      walk_at "g"
      exact h l xs p o B H' ch.ok ⟨hl2 (by omega), by omega⟩ (by rw [← ch.wide]; exact ch.most) sB tl hok O

/-! ### law_told -/
-- @NEEDS Trick_init Trick_base Trick_take need_tricks wide_of_chains chain_tells chained rings divisors multipliers good_divisors ahead trail fitting need_pairs
def wRef (ws : List (Addr × List V)) : List V := ws.map fun w => .ref w.1
def wOwn (ws : List (Addr × List V)) : List (Addr × HO) := ws.map fun w => (w.1, .lst w.2)
/-- the rows of all that is told -/
def toldR (ps : List (Addr × List Int)) (zs : List V) (b k t n : Int) (l : List Tr) (ms : List Int) : List (List V) :=
  [refs ps, (flt (goodB (b ^ k.toNat) t) 1 (40 : Int).toNat).map V.int, (flt (fun x => goodB (b ^ k.toNat) x 21) 0 (21 : Int).toNat).map V.int, (goods b (4 : Int).toNat (40 : Int).toNat).map V.int, ms.map V.int, (trailL b k t n (5 : Int).toNat).map V.int, zs, [.int (behA l n)],
    [.str (wordO (fstB (unlA l 3) (3 * wideA l).toNat) (fstB (flsA l 3) (3 * wideA l).toNat))]]
structure ToldIn (b k t n : Int) (l : List Tr) (pl : List (Int × Int)) (H : Hp) (ws : List (Addr × List V)) (ps : List (Addr × List Int)) (zs : List V) (ms : List Int) : Prop where
  rows : ws.map (·.2) = toldR ps zs b k t n l ms
  tr : rowsT ps H
  tz : RowsT H zs (fitAll pl 15)
  rg : AllRings (beh b k t) (ps.map (·.2))
  up : (ps.map (·.2)).Pairwise (· ≤ ·)
  few : ps.length ≤ 102147
  ah : AheadOf b k t n ms
theorem own_weak {B B' H : Hp} {Lw : List (Addr × HO)} (s : Same B' B) (O : Own B Lw H) : Own B' Lw H := 
  ⟨fun a v e => O.st a v (s a v e), O.ow, fun q hq => Option.eq_none_iff_forall_not_mem.mpr (fun v e => by have z := O.no q hq; rw [s _ _ e] at z; cases z), O.nd⟩
theorem rows9 (p1 p2 p3 p4 p5 p6 p7 p8 p9 : Addr) (ps : List (Addr × List Int)) (zs : List V) (b k t n : Int) (l : List Tr) (ms : List Int) : [(p1, refs ps), (p2, (flt (goodB (b ^ k.toNat) t) 1 (40 : Int).toNat).map V.int), (p3, (flt (fun x => goodB (b ^ k.toNat) x 21) 0 (21 : Int).toNat).map V.int), (p4, (goods b (4 : Int).toNat (40 : Int).toNat).map V.int), (p5, ms.map V.int), (p6, (trailL b k t n (5 : Int).toNat).map V.int), (p7, zs), (p8, [.int (behA l n)]),
      (p9, [.str (wordO (fstB (unlA l 3) (3 * wideA l).toNat) (fstB (flsA l 3) (3 * wideA l).toNat))])].map (·.2) = toldR ps zs b k t n l ms := by
  unfold toldR
  simp only [List.map_cons, List.map_nil]
theorem rev9 {α : Type} (a1 a2 a3 a4 a5 a6 a7 a8 a9 : α) : [a1, a2, a3, a4, a5, a6, a7, a8, a9].Perm [a9, a8, a7, a6, a5, a4, a3, a2, a1] := List.reverse_perm [a9, a8, a7, a6, a5, a4, a3, a2, a1]
def sp_law_told (Z : Adr) : Sp := fun vs H Q _ => ∃ (a c pp : Addr) (b k t n : Int) (l : List Tr) (xs ys : List V) (pl : List (Int × Int)), vs = [.ref a, .ref c, .int n, .ref pp] ∧ TrickAt Z H a b k t ∧ (-(10 ^ 40) ≤ n ∧ n ≤ 10 ^ 40) ∧
  TricksAt Z H c l ∧ EAt H c xs ∧ (1 ≤ l.length ∧ l.length ≤ 4) ∧ wideA l ≤ 300 ∧ EAt H pp ys ∧ RowsT H ys (prs pl) ∧ (1 ≤ pl.length ∧ pl.length ≤ 10) ∧ PairsOk pl ∧
  ∀ (p : Addr) (ws : List (Addr × List V)) (ps : List (Addr × List Int)) (zs : List V) (ms : List Int) (H' : Hp), Own H ((p, .lst (wRef ws)) :: wOwn ws) H' → ToldIn b k t n l pl H' ws ps zs ms → Q (.ref p) H'
theorem ok_law_told (T : Txt K mg Z) : FnOk P w K mg base CX0 5 Z.f_law_told Z.d_law_told p_law_told (sp_law_told Z) := by
  refine T.F_law_told.ok sc_law_told (fun vs H Q E h => ?_) (fun cdv A outer s H vs Q E hr h => ?_)
  · obtain ⟨_, _, _, _, _, _, _, _, _, _, _, rfl, _⟩ := h; rfl
  · obtain ⟨a, c, pp, b, k, t, n, l, xs, ys, pl, rfl, ha, hn, hc, hxs, hl, hw, hE, hR, hpl, hok, h⟩ := h
    have tk := ha.1
    refine ⟨_, (pss_cons (ps_set (i := 4) sc_law_told.nd rfl (Or.inl rfl) (pe_lst (pa_cons (pe_call (ok_rings T) (hr.mono (by decide)) rfl T.g_rings T.F_rings.kp T.b_rings .nil pass0 (pa_cons (pv 0) pa_nil)) (pa_cons (pe_call (ok_divisors T) (hr.mono (by decide)) rfl T.g_divisors T.F_divisors.kp T.b_divisors .nil pass0 (pa_cons (pv 0) (pa_cons pe_int pa_nil))) (pa_cons (pe_call (ok_multipliers T) (hr.mono (by decide)) rfl T.g_multipliers T.F_multipliers.kp T.b_multipliers .nil pass0 (pa_cons (pe_prop (pv 0) T.cl_Trick T.pr_Trick_base (ok_Trick_base T) (hr.mono (by decide)) T.b_Trick_base .nil pass0 rfl) (pa_cons (pe_prop (pv 0) T.cl_Trick T.pr_Trick_take (ok_Trick_take T) (hr.mono (by decide)) T.b_Trick_take .nil pass0 rfl) (pa_cons pe_int pa_nil)))) (pa_cons (pe_call (ok_good_divisors T) (hr.mono (by decide)) rfl T.g_good_divisors T.F_good_divisors.kp T.b_good_divisors .nil pass0 (pa_cons (pe_prop (pv 0) T.cl_Trick T.pr_Trick_base (ok_Trick_base T) (hr.mono (by decide)) T.b_Trick_base .nil pass0 rfl) (pa_cons pe_int (pa_cons pe_int pa_nil)))) pa_nil))))))
    (pss_cons (ps_set (i := 4) sc_law_told.nd rfl (Or.inl rfl) (pe_op op_cat (pv 4) (pe_lst (pa_cons (pe_call (ok_ahead T) (hr.mono (by decide)) rfl T.g_ahead T.F_ahead.kp T.b_ahead .nil pass0 (pa_cons (pv 0) (pa_cons (pv 2) pa_nil))) (pa_cons (pe_call (ok_trail T) (hr.mono (by decide)) rfl T.g_trail T.F_trail.kp T.b_trail .nil pass0 (pa_cons (pv 0) (pa_cons (pv 2) (pa_cons pe_int pa_nil)))) pa_nil)))))
    (pss_one (ps_ret (pe_op op_cat (pv 4) (pe_lst (pa_cons (pe_call (ok_fitting T) (hr.mono (by decide)) rfl T.g_fitting T.F_fitting.kp T.b_fitting .nil pass0 (pa_cons (pv 3) pa_nil)) (pa_cons (pe_lst (pa_cons (pe_call (ok_chained T) (hr.mono (by decide)) rfl T.g_chained T.F_chained.kp T.b_chained .nil pass0 (pa_cons (pv 1) (pa_cons (pv 2) pa_nil))) pa_nil)) (pa_cons (pe_lst (pa_cons (pe_call (ok_chain_tells T) (hr.mono (by decide)) rfl T.g_chain_tells T.F_chain_tells.kp T.b_chain_tells .nil pass0 (pa_cons (pv 1) (pa_cons pe_int pa_nil))) pa_nil)) pa_nil))))))))), ?_⟩
    walk_at "g"
    refine ⟨a, b, k, t, rfl, ha, fun p1 ps B1 H1 sB1 O rT rg up few => ?_⟩
    have ha1 := ha.same sB1
    walk_at "g"
    refine ⟨a, b, k, t, 40, rfl, ha1.up O, by decide, fun p2 H2 s2 n2 g2 => ?_⟩
    replace O := O.got s2 n2 g2
    walk_at "g"
    refine use_Trick_base (ha1.up O) ?_
    walk_at "g"
    refine use_Trick_take (ha1.up O) ?_
    walk_at "g"
    refine ⟨b, k, 21, rfl, tk.1, tk.2.1, by decide, fun p3 H3 s3 n3 g3 => ?_⟩
    replace O := O.got s3 n3 g3
    walk_at "g"
    refine use_Trick_base (ha1.up O) ?_
    walk_at "g"
    refine ⟨b, 4, 40, rfl, tk.1, by decide, by decide, fun p4 H4 n4 s4 g4 => ?_⟩
    replace O := O.got s4 n4 g4
    walk_at "g"; walk_at "mkL"; intro q1 H5 hq1 O
    walk_at "g"
    refine use_ahead O (ha1.up O) hn.1 hn.2 (fun ms p5 H6 am O => ?_)
    walk_at "g"
    refine use_trail O (ha1.up O) hn (by decide) (fun p6 H7 O => ?_)
    walk_at "g"; walk_at "mkL"; intro q2 H8 hq2 O
    walk_at "g"
    refine a_catL O (O.get 3 rfl) (O.get 0 rfl) (by simp only [List.length_cons, List.length_nil, List.length_append]; omega) (fun q3 H9 hq3 O => ?_)
    walk_at "g"
    have sT : Same H H9 := sB1.trans O.st
    refine ⟨pp, ys, pl, rfl, hE.up sT, hR.same sT, hpl, hok, fun p7 zs H10 s10 n10 g10 tz => ?_⟩
    replace O := O.got s10 n10 g10
    have sT2 : Same H H10 := sB1.trans O.st
    walk_at "g"
    refine ⟨c, l, n, rfl, hc.same sT2, hl, hn.1, hn.2, fun H11 s11 => ?_⟩
    replace O := O.same s11
    replace tz := tz.same s11
    walk_at "g"
    have O2 := Own.refl H11
    refine a_mkL O2 (by simp only [List.length_cons, List.length_nil, List.length_append]; omega) (fun p8 H12 h12 O2 => ?_)
    walk_at "g"
    have sT3 : Same H H12 := (sB1.trans O.st).trans O2.st
    refine ⟨c, l, xs, 3, rfl, hc.same sT3, hxs.up sT3, hl, by decide, hw, fun H13 s13 => ?_⟩
    replace O2 := O2.same s13
    walk_at "g"
    refine a_mkL O2 (by simp only [List.length_cons, List.length_nil, List.length_append]; omega) (fun p9 H14 h14 O2 => ?_)
    walk_at "g"
    refine a_mkL O2 (by simp only [List.length_cons, List.length_nil, List.length_append]; omega) (fun q4 H15 h15 O2 => ?_)
    walk_at "g"
    refine a_catL O2 (O2.st _ _ (O.get 1 rfl)) (O2.get 0 rfl) (by simp only [List.length_cons, List.length_nil, List.length_append]; omega) (fun q5 H16 h16 O2 => ?_)
    walk_at "g"
    replace tz := tz.same O2.st
    have OB := O.join O2
    replace O := own_weak sB1 OB
    simp only [List.cons_append, List.nil_append] at O
    have O3 := O.less (.cons_cons _ (.cons _ (.cons_cons _ (.cons_cons _ (.cons_cons _ (.cons _ (.cons _ (.cons_cons _ (.cons_cons _ (.cons _ (List.Sublist.refl _)))))))))))
    have O4 := O3.perm (List.Perm.cons _ (rev9 _ _ _ _ _ _ _ _ _))
    have rT4 := rT.same OB.st
    clear O O2 O3 OB
    have T : ToldIn b k t n l pl H16 [(p1, refs ps), (p2, (flt (goodB (b ^ k.toNat) t) 1 (40 : Int).toNat).map V.int), (p3, (flt (fun x => goodB (b ^ k.toNat) x 21) 0 (21 : Int).toNat).map V.int), (p4, (goods b (4 : Int).toNat (40 : Int).toNat).map V.int), (p5, ms.map V.int), (p6, (trailL b k t n (5 : Int).toNat).map V.int), (p7, zs), (p8, [.int (behA l n)]),
      (p9, [.str (wordO (fstB (unlA l 3) (3 * wideA l).toNat) (fstB (flsA l 3) (3 * wideA l).toNat))])] ps zs ms := ⟨rows9 .., rT4, tz, rg, up, few, am⟩
    generalize (flt (goodB (b ^ k.toNat) t) 1 (40 : Int).toNat).map V.int = r2 at *
    generalize (flt (fun x => goodB (b ^ k.toNat) x 21) 0 (21 : Int).toNat).map V.int = r3 at *
    generalize (goods b (4 : Int).toNat (40 : Int).toNat).map V.int = r4 at *
    generalize (trailL b k t n (5 : Int).toNat).map V.int = r6 at *
    generalize wordO (fstB (unlA l 3) (3 * wideA l).toNat) (fstB (flsA l 3) (3 * wideA l).toNat) = r9 at *
    exact h q5 [(p1, refs ps), (p2, r2), (p3, r3), (p4, r4), (p5, ms.map V.int), (p6, r6), (p7, zs), (p8, [.int (behA l n)]), (p9, [.str r9])] ps zs ms H16 O4 T

/-! ### law -/
-- @NEEDS Trick_init Trick_times law_taken law_number law_chain law_tricks law_behind law_told Reckoner_init Reckoner_step Reckoner_copy Reckoner_undo Reckoner_len Reckoner_now need_tricks need_pairs
def allDp (K : Frag) (H : Hp) : List (List V) → List (List PyData) → Prop
  | [], [] => True
  | r :: rs, d :: ds => DpAll K H r d ∧ allDp K H rs ds
  | _, _ => False
theorem dp_refs {K : Frag} {H : Hp} : ∀ {ws : List (Addr × List V)} {dss : List (List PyData)}, (∀ w ∈ ws, SqL K H w.1 w.2) → allDp K H (ws.map (·.2)) dss → DpAll K H (wRef ws) (dss.map .list)
  | [], [], _, _ => .nil
  | w :: ws, d :: ds, h, g => .cons (.lst (h w List.mem_cons_self) g.1) (dp_refs (fun x hx => h x (List.mem_cons_of_mem _ hx)) g.2)
  | [], _ :: _, _, g => g.elim
  | _ :: _, [], _, g => g.elim
def toldD (Ls : List (List Int)) (b k t n : Int) (l : List Tr) (pl : List (Int × Int)) (ms : List Int) : List (List PyData) :=
  [Ls.map pyT, (flt (goodB (b ^ k.toNat) t) 1 (40 : Int).toNat).map .int, (flt (fun x => goodB (b ^ k.toNat) x 21) 0 (21 : Int).toNat).map .int, (goods b (4 : Int).toNat (40 : Int).toNat).map .int, ms.map .int, (trailL b k t n (5 : Int).toNat).map .int, (fitAll pl 15).map pyT, [.int (behA l n)],
    [.str (wordO (fstB (unlA l 3) (3 * wideA l).toNat) (fstB (flsA l 3) (3 * wideA l).toNat))]]
theorem dp_rows {K : Frag} {H : Hp} : ∀ {ps : List (Addr × List Int)}, rowsT ps H → DpAll K H (refs ps) ((ps.map (·.2)).map pyT)
  | [], _ => .nil
  | q :: _, h => .cons (dp_pyT (SqT.of (h q List.mem_cons_self))) (dp_rows fun x hx => h x (List.mem_cons_of_mem _ hx))
theorem dp_ints (K : Frag) (H : Hp) (ns : List Int) : DpAll K H (ns.map V.int) (ns.map .int) := dpAll_map (fun i => .int i) ns
theorem told_all {K : Frag} {H : Hp} {b k t n : Int} {l : List Tr} {pl : List (Int × Int)} {R : List (List V)} {ps : List (Addr × List Int)} {zs : List V} {ms : List Int} (e : R = toldR ps zs b k t n l ms) (tr : rowsT ps H) (tz : RowsT H zs (fitAll pl 15)) : allDp K H R (toldD (ps.map (·.2)) b k t n l pl ms) := by
  rw [e]
  exact ⟨dp_rows tr, dp_ints _ _ _, dp_ints _ _ _, dp_ints _ _ _, dp_ints _ _ _, dp_ints _ _ _, tz.dps, .cons (.int _) .nil, .cons (.str _) .nil, trivial⟩
theorem canAll_cons {d : PyData} {ds : List PyData} (h : d.canLay0 = true) (g : PyData.canLayAll0 ds = true) : PyData.canLayAll0 (d :: ds) = true := by
  show (d.canLay0 && PyData.canLayAll0 ds) = true
  rw [h, g]; rfl
theorem depAll_cons {d : PyData} {ds : List PyData} {m : Nat} (h : d.depth ≤ m) (g : PyData.depthAll ds ≤ m) : PyData.depthAll (d :: ds) ≤ m := by
  show max d.depth (PyData.depthAll ds) ≤ m
  omega
theorem word_can (u f : Option Int) : (PyData.list [PyData.str (wordO u f)]).canLay0 = true := by
  unfold wordO
  split
  · decide +kernel
  · split <;> decide +kernel
theorem can_told (Ls : List (List Int)) (b k t n : Int) (l : List Tr) (pl : List (Int × Int)) (ms : List Int) : (PyData.list ((toldD Ls b k t n l pl ms).map .list)).canLay0 = true :=
  canAll_cons (canAll_map can_pyT Ls) (canAll_cons (can_pyL _) (canAll_cons (can_pyL _) (canAll_cons (can_pyL _) (canAll_cons (can_pyL _) (canAll_cons (can_pyL _) (canAll_cons (canAll_map can_pyT (fitAll pl 15)) (canAll_cons rfl (canAll_cons (word_can _ _) rfl))))))))
theorem dep_rows (Ls : List (List Int)) : (PyData.list (Ls.map pyT)).depth ≤ 10 := by
  have h := depthAll_map (f := pyT) (n := 1) dep_pyT Ls
  show PyData.depthAll (Ls.map pyT) + 1 ≤ 10
  omega
theorem dep_told (Ls : List (List Int)) (b k t n : Int) (l : List Tr) (pl : List (Int × Int)) (ms : List Int) : (PyData.list ((toldD Ls b k t n l pl ms).map .list)).depth ≤ 64 := by
  have i10 : ∀ ns : List Int, (pyL ns).depth ≤ 10 := fun ns => Nat.le_trans (dep_pyL ns) (by decide)
  have h : PyData.depthAll ((toldD Ls b k t n l pl ms).map .list) ≤ 10 :=
    depAll_cons (dep_rows Ls) (depAll_cons (i10 _) (depAll_cons (i10 _) (depAll_cons (i10 _) (depAll_cons (i10 _) (depAll_cons (i10 _) (depAll_cons (dep_rows _) (depAll_cons (show (1 : Nat) ≤ 10 by decide) (depAll_cons (show (1 : Nat) ≤ 10 by decide) (Nat.zero_le _)))))))))
  show PyData.depthAll _ + 1 ≤ 64
  omega
theorem told_len {b k t n : Int} {l : List Tr} {pl : List (Int × Int)} {H : Hp} {ws : List (Addr × List V)} {ps : List (Addr × List Int)} {zs : List V} {ms : List Int} (T : ToldIn b k t n l pl H ws ps zs ms) : ws.length = 9 ∧ ∀ w ∈ ws, w.2.length ≤ 200000 := by
  refine ⟨by have := congrArg List.length T.rows; rw [List.length_map] at this; exact this, fun w hw => ?_⟩
  have m : w.2 ∈ toldR ps zs b k t n l ms := by rw [← T.rows]; exact List.mem_map.mpr ⟨w, hw, rfl⟩
  have few := T.few
  have am := T.ah.len
  have l1 := flt_len (p := goodB (b ^ k.toNat) t) (lo := 1) (40 : Int).toNat
  have l2 := flt_len (p := fun x => goodB (b ^ k.toNat) x 21) (lo := 0) (21 : Int).toNat
  have l3 := goods_len b (4 : Int).toNat (40 : Int).toNat
  have l4 := trailL_len b k t n (5 : Int).toNat
  have l5 := fitAll_len pl 15
  have l6 := T.tz.1
  have c1 : (40 : Int).toNat = 40 := rfl
  have c2 : (21 : Int).toNat = 21 := rfl
  have c3 : (5 : Int).toNat = 5 := rfl
  unfold toldR at m
  simp only [List.mem_cons, List.not_mem_nil, or_false] at m
  rcases m with e | e | e | e | e | e | e | e | e <;> rw [e]
  · unfold refs; rw [List.length_map]; omega
  · rw [List.length_map]; omega
  · rw [List.length_map]; omega
  · rw [List.length_map]; omega
  · rw [List.length_map]; omega
  · rw [List.length_map]; omega
  · omega
  · show 1 ≤ 200000; decide
  · show 1 ≤ 200000; decide
theorem up_same : ∀ {l m : List Int}, l.Pairwise (· < ·) → m.Pairwise (· < ·) → (∀ x, x ∈ l ↔ x ∈ m) → l = m
  | [], [], _, _, _ => rfl
  | [], y :: m, _, _, h => absurd ((h y).mpr List.mem_cons_self) List.not_mem_nil
  | x :: l, [], _, _, h => absurd ((h x).mp List.mem_cons_self) List.not_mem_nil
  | x :: l, y :: m, h1, h2, h => by
    rw [List.pairwise_cons] at h1 h2
    have e : x = y := by
      rcases List.mem_cons.mp ((h x).mp List.mem_cons_self) with c | c
      · exact c
      · rcases List.mem_cons.mp ((h y).mpr List.mem_cons_self) with d | d
        · exact d.symm
        · have := h1.1 _ d
          have := h2.1 _ c
          omega
    subst e
    rw [up_same h1.2 h2.2 fun z => ?_]
    have q := h z
    rw [List.mem_cons, List.mem_cons] at q
    constructor
    · intro c
      rcases q.mp (.inr c) with rfl | d
      · have := h1.1 _ c
        omega
      · exact d
    · intro c
      rcases q.mpr (.inr c) with rfl | d
      · have := h2.1 _ c
        omega
      · exact d
/-- the numbers below m of which a trick makes n -/
theorem wRef_at {ws : List (Addr × List V)} {i : Nat} {y : V} (h : (wRef ws)[i]? = some y) : ∃ w, ws[i]? = some w ∧ y = .ref w.1 := by
  unfold wRef at h
  rw [List.getElem?_map] at h
  obtain ⟨w, hw, e⟩ := Option.map_eq_some_iff.mp h
  exact ⟨w, hw, e.symm⟩
theorem wRef_len (ws : List (Addr × List V)) : (wRef ws).length = ws.length := List.length_map ..
theorem no_step (l t : Addr) : (reckF l t).lookup ("step" : Str) = none := by
  unfold reckF
  rw [lk_ne (show ¬ ("step" : Str) = "stood" by decide +kernel), lk_ne (show ¬ ("step" : Str) = "deeds" by decide +kernel)]
  rfl
theorem no_copy (l t : Addr) : (reckF l t).lookup ("copy" : Str) = none := by
  unfold reckF
  rw [lk_ne (show ¬ ("copy" : Str) = "stood" by decide +kernel), lk_ne (show ¬ ("copy" : Str) = "deeds" by decide +kernel)]
  rfl
theorem no_undo (l t : Addr) : (reckF l t).lookup ("undo" : Str) = none := by
  unfold reckF
  rw [lk_ne (show ¬ ("undo" : Str) = "stood" by decide +kernel), lk_ne (show ¬ ("undo" : Str) = "deeds" by decide +kernel)]
  rfl
/-- the base with all but the owned lists -/
theorem told_base {H0 H1 : Hp} {p : Addr} {xs : List V} {ws : List (Addr × List V)} {ps : List (Addr × List Int)} {zs : List V} {L : List (List Int)} (O : Own H0 ((p, .lst xs) :: wOwn ws) H1) (tr : rowsT ps H1) (tz : RowsT H1 zs L) :
    ∃ B, Same H0 B ∧ Own B ((p, .lst xs) :: wOwn ws) H1 ∧ rowsT ps B ∧ RowsT B zs L := by
  have lst : ∀ x ∈ ((p, .lst xs) :: wOwn ws : List (Addr × HO)), ∃ ys, x.2 = .lst ys := fun x hx => by
    rcases List.mem_cons.mp hx with rfl | hx
    · exact ⟨_, rfl⟩
    · obtain ⟨w, _, rfl⟩ := List.mem_map.mp hx
      exact ⟨_, rfl⟩
  have tupB : ∀ q ts, H1 q = some (.tup ts) → q ∉ ((p, .lst xs) :: wOwn ws : List (Addr × HO)).map (·.1) := fun q ts hq hm => by
    obtain ⟨x, hx, e⟩ := List.mem_map.mp hm
    obtain ⟨ys, ey⟩ := lst x hx
    have z := O.ow x hx
    rw [ey] at z
    have e : x.1 = q := e
    rw [e, hq] at z
    cases z
  have fr : ∀ a u, H0 a = some u → a ∉ ((p, .lst xs) :: wOwn ws : List (Addr × HO)).map (·.1) := fun a u e hm => by
    obtain ⟨x, hx, ex⟩ := List.mem_map.mp hm
    have z := O.no x hx
    have ex : x.1 = a := ex
    rw [ex, e] at z
    cases z
  refine ⟨fun a => if a ∈ ((p, .lst xs) :: wOwn ws : List (Addr × HO)).map (·.1) then none else H1 a, fun a u e => ?_, ⟨fun a u e => ?_, O.ow, fun q hq => ?_, O.nd⟩, fun q hq => ?_, ⟨tz.1, fun i x hx => ?_⟩⟩
  · show (if _ then _ else _) = _
    rw [if_neg (fr a u e)]
    exact O.st _ _ e
  · by_cases c : a ∈ ((p, .lst xs) :: wOwn ws : List (Addr × HO)).map (·.1)
    · rw [if_pos c] at e; cases e
    · rw [if_neg c] at e; exact e
  · show (if _ then _ else _) = _
    rw [if_pos (List.mem_map.mpr ⟨q, hq, rfl⟩)]
  · show (if _ then _ else _) = _
    rw [if_neg (tupB _ _ (tr q hq))]
    exact tr q hq
  · obtain ⟨q, ns, e1, e2, e3⟩ := tz.2 i x hx
    refine ⟨q, ns, e1, e2, ?_⟩
    show (if _ then _ else _) = _
    rw [if_neg (tupB _ _ e3)]
    exact e3
def sp_law (K : Frag) : Sp := fun vs H Q _ => ∃ (a : Addr) (ns : List Int), vs = [.ref a] ∧ SqL K H a (ns.map V.int) ∧ ns.length ≤ 63 ∧ ∀ H', Q (.bl true) H'
theorem ok_law (T : Txt K mg Z) : FnOk P w K mg base CX0 6 Z.f_law Z.d_law p_law (sp_law K) := by
  refine T.F_law.ok sc_law (fun vs H Q E h => ?_) (fun cdv A outer s H vs Q E hr h => ?_)
  · obtain ⟨_, _, rfl, _⟩ := h; rfl
  · obtain ⟨a, ns, rfl, hS, hlen, h⟩ := h
    have O := Own.refl H
    refine ⟨_, (pss_cons (ps_set (i := 1) sc_law.nd rfl (Or.inl rfl) (pe_lst (pa_cons (pv 0) (pa_cons pe_int (pa_cons pe_int (pa_cons pe_int pa_nil))))))
    (pss_cons (ps_set (i := 2) sc_law.nd rfl (Or.inl rfl) (pe_lst (pa_cons (pe_op op_add pe_int (pe_call (ok_law_taken T) (hr.mono (by decide)) rfl T.g_law_taken T.F_law_taken.kp T.b_law_taken .nil pass0 (pa_cons (pv 1) (pa_cons pe_int pa_nil)))) (pa_cons pe_int (pa_cons (pe_op op_sub (pe_call (ok_law_taken T) (hr.mono (by decide)) rfl T.g_law_taken T.F_law_taken.kp T.b_law_taken .nil pass0 (pa_cons (pv 1) (pa_cons pe_int pa_nil))) pe_int) pa_nil)))))
    (pss_cons (ps_par (i := 3) (j := 4) (by rfl) sc_law.nd rfl rfl (by decide) rfl rfl (pa_cons (pe_make T.M_Trick (ok_Trick_init T) (hr.mono (by decide)) rfl T.g_Trick T.b_Trick_init .nil pass0 (pa_cons (pe_ix (r := rIxL K) ix_list (pv 2) pe_int (fun _ _ => rfl)) (pa_cons (pe_ix (r := rIxL K) ix_list (pv 2) pe_int (fun _ _ => rfl)) (pa_cons (pe_ix (r := rIxL K) ix_list (pv 2) pe_int (fun _ _ => rfl)) pa_nil)))) (pa_cons (pe_call (ok_law_number T) (hr.mono (by decide)) rfl T.g_law_number T.F_law_number.kp T.b_law_number .nil pass0 (pa_cons (pv 1) pa_nil)) pa_nil)) (by rfl))
    (pss_cons (ps_set (i := 5) sc_law.nd rfl (Or.inl rfl) (pe_call (ok_law_tricks T) (hr.mono (by decide)) rfl T.g_law_tricks T.F_law_tricks.kp T.b_law_tricks .nil pass0 (pa_cons (pe_call (ok_law_chain T) (hr.mono (by decide)) rfl T.g_law_chain T.F_law_chain.kp T.b_law_chain .nil pass0 (pa_cons (pv 1) pa_nil)) pa_nil)))
    (C8.pss_cut (ps_set (i := 6) sc_law.nd rfl (Or.inl rfl) (pe_ifExp (pt_cmpR op_le (pe_callB call_absR (by rfl) T.n_abs boot_abs (pa_cons (pe_call (ok_law_behind T) (hr.mono (by decide)) rfl T.g_law_behind T.F_law_behind.kp T.b_law_behind .nil pass0 (pa_cons (pv 2) (pa_cons (pv 4) pa_nil))) pa_nil)) (pe_op op_pow pe_int pe_int) (nomark _)) (pe_lst (pa_cons (pe_tup (pa_cons (pv 4) (pa_cons (pe_call (ok_law_behind T) (hr.mono (by decide)) rfl T.g_law_behind T.F_law_behind.kp T.b_law_behind .nil pass0 (pa_cons (pv 2) (pa_cons (pv 4) pa_nil))) pa_nil))) pa_nil)) (pe_lst (pa_cons (pe_tup (pa_cons pe_int (pa_cons pe_int pa_nil))) pa_nil))))
    (pss_cons (ps_par (i := 7) (j := 8) (by rfl) sc_law.nd rfl rfl (by decide) rfl rfl (pa_cons (pe_callTy (r := rLstOf K) call_lstR (by rfl) T.n_list boot_list (pa_cons (pv 5) pa_nil)) (pa_cons (pe_callTy (r := rLstOf K) call_lstR (by rfl) T.n_list boot_list (pa_cons (pv 6) pa_nil)) pa_nil)) (by rfl))
    (pss_cons (ps_set (i := 9) sc_law.nd rfl (Or.inl rfl) (pe_call (ok_law_told T) (hr.mono (by decide)) rfl T.g_law_told T.F_law_told.kp T.b_law_told .nil pass0 (pa_cons (pv 3) (pa_cons (pv 7) (pa_cons (pv 4) (pa_cons (pv 8) pa_nil))))))
    (pss_cons (ps_setLc (i := 10) rfl sc_law.nd rfl rfl (sw_true rfl rfl rfl (by decide +kernel)) (own := [("_law_one", 11)]) (tt := tYes) (pi_list (pv 9)) (blkOk_by (N := N_law) (sc := defScope s_law) (by decide +kernel)) (fun _ _ _ _ _ => (pg_name (i := 11) sc_law.nd rfl (Or.inl rfl))) (fun _ _ _ _ _ => pts_nil) (fun _ _ _ _ _ => (pe_callTy (r := rLstOf K) call_lstR (by rfl) T.n_list boot_list (pa_cons (pv 11) pa_nil))))
    (pss_cons (ps_for PassesOwn.never rfl (pi_list (pv 9)) (pg_name (i := 11) sc_law.nd rfl (Or.inl rfl))
    (pss_cons (ps_expr (pe_bm PySem.F.plainAttrs_list PySem.F.slot_list_append PySem.F.type_list_append mt_append (pv 11) (pa_cons pe_str pa_nil)))
    (pss_one (ps_expr (pe_bm0 PySem.F.plainAttrs_list PySem.F.slot_list_reverse PySem.F.type_list_reverse mt_reverse (pv 11))))))
    (pss_cons (ps_if (PW.pt (pw_or (pt_cmpR (r := rNeD K) (op_neD hr.units) (pe_call (ok_law_told T) (hr.mono (by decide)) rfl T.g_law_told T.F_law_told.kp T.b_law_told .nil pass0 (pa_cons (pv 3) (pa_cons (pv 7) (pa_cons (pv 4) (pa_cons (pv 8) pa_nil))))) (pv 10) (nomark _)) (pw_or (pt_cmpR (r := rNeS K) (op_neS hr.units) (pv 7) (pv 5) (nomark _)) (pw_or1 (pt_cmpR (r := rNeS K) (op_neS hr.units) (pv 8) (pv 6) (nomark _)))))) (pss_one (ps_ret pe_bl)) pss_nil)
    (pss_cons (ps_if (pt_cmpR (r := rNeD K) (op_neD hr.units) (pe_call (ok_law_told T) (hr.mono (by decide)) rfl T.g_law_told T.F_law_told.kp T.b_law_told .nil pass0 (pa_cons (pe_make T.M_Trick (ok_Trick_init T) (hr.mono (by decide)) rfl T.g_Trick T.b_Trick_init .nil pass0 (pa_cons (pe_ix (r := rIxL K) ix_list (pv 2) pe_int (fun _ _ => rfl)) (pa_cons (pe_ix (r := rIxL K) ix_list (pv 2) pe_int (fun _ _ => rfl)) (pa_cons (pe_ix (r := rIxL K) ix_list (pv 2) pe_int (fun _ _ => rfl)) pa_nil)))) (pa_cons (pe_callTy (r := rTupOf K) call_tupR (by rfl) T.n_tuple boot_tuple (pa_cons (pv 5) pa_nil)) (pa_cons (pv 4) (pa_cons (pe_callTy (r := rTupOf K) call_tupR (by rfl) T.n_tuple boot_tuple (pa_cons (pv 6) pa_nil)) pa_nil))))) (pv 10) (nomark _)) (pss_one (ps_ret pe_bl)) pss_nil)
    (pss_cons (ps_par (i := 12) (j := 13) (by rfl) sc_law.nd rfl rfl (by decide) rfl rfl (pa_cons (pe_make T.M_Reckoner (ok_Reckoner_init T) (hr.mono (by decide)) rfl T.g_Reckoner T.b_Reckoner_init .nil pass0 (pa_cons (pv 4) pa_nil)) (pa_cons (pe_make T.M_Reckoner (ok_Reckoner_init T) (hr.mono (by decide)) rfl T.g_Reckoner T.b_Reckoner_init .nil pass0 (pa_cons (pv 4) pa_nil)) pa_nil)) (by rfl))
    (pss_cons (ps_expr (pe_meth (pv 12) T.cl_Reckoner T.m_Reckoner_step (ok_Reckoner_step T) (hr.mono (by decide)) T.b_Reckoner_step .nil pass0 (pa_cons (pv 3) pa_nil)))
    (pss_cons (ps_set (i := 14) sc_law.nd rfl (Or.inl rfl) (pe_meth0 (pv 12) T.cl_Reckoner T.m_Reckoner_copy (ok_Reckoner_copy T) (hr.mono (by decide)) T.b_Reckoner_copy .nil pass0))
    (pss_cons (ps_if (PW.pt (pw_or (pt_not (pt_val (pe_meth0 (pv 14) T.cl_Reckoner T.m_Reckoner_undo (ok_Reckoner_undo T) (hr.mono (by decide)) T.b_Reckoner_undo .nil pass0))) (pw_or (pt_cmpR op_ne (pe_callB (r := rLenO Z.c_Reckoner (sp_Reckoner_len Z)) (call_lenO (ok_Reckoner_len T) (hr.mono (by decide)) T.m_Reckoner_len.at_ (beq_iff_eq.mp T.m_Reckoner_len.fn) T.b_Reckoner_len) (by rfl) T.n_len boot_len (pa_cons (pv 12) pa_nil)) pe_int (nomark _)) (pw_or (pt_cmpR op_ne (pe_callB (r := rLenO Z.c_Reckoner (sp_Reckoner_len Z)) (call_lenO (ok_Reckoner_len T) (hr.mono (by decide)) T.m_Reckoner_len.at_ (beq_iff_eq.mp T.m_Reckoner_len.fn) T.b_Reckoner_len) (by rfl) T.n_len boot_len (pa_cons (pv 13) pa_nil)) pe_int (nomark _)) (pw_or (pt_cmpR op_ne (pe_callB (r := rLenO Z.c_Reckoner (sp_Reckoner_len Z)) (call_lenO (ok_Reckoner_len T) (hr.mono (by decide)) T.m_Reckoner_len.at_ (beq_iff_eq.mp T.m_Reckoner_len.fn) T.b_Reckoner_len) (by rfl) T.n_len boot_len (pa_cons (pv 14) pa_nil)) pe_int (nomark _)) (pw_or1 (pt_val (pe_meth0 (pv 13) T.cl_Reckoner T.m_Reckoner_undo (ok_Reckoner_undo T) (hr.mono (by decide)) T.b_Reckoner_undo .nil pass0)))))))) (pss_one (ps_ret pe_bl)) pss_nil)
    (pss_one (ps_ret (pe_and (pe_cmpR op_eq (pe_prop (pv 12) T.cl_Reckoner T.pr_Reckoner_now (ok_Reckoner_now T) (hr.mono (by decide)) T.b_Reckoner_now .nil pass0 rfl) (pe_call (ok_law_behind T) (hr.mono (by decide)) rfl T.g_law_behind T.F_law_behind.kp T.b_law_behind .nil pass0 (pa_cons (pv 2) (pa_cons (pv 4) pa_nil))) (nomark _)) (pe_and (pe_cmpR op_eq (pe_prop (pv 14) T.cl_Reckoner T.pr_Reckoner_now (ok_Reckoner_now T) (hr.mono (by decide)) T.b_Reckoner_now .nil pass0 rfl) (pv 4) (nomark _)) (pe_and (pe_cmpR op_eq (pe_prop (pv 13) T.cl_Reckoner T.pr_Reckoner_now (ok_Reckoner_now T) (hr.mono (by decide)) T.b_Reckoner_now .nil pass0 rfl) (pv 4) (nomark _)) (pe_one (pe_cmpR op_eq (pe_prop (pv 3) T.cl_Trick T.pr_Trick_times (ok_Trick_times T) (hr.mono (by decide)) T.b_Trick_times .nil pass0 rfl) (pe_ix (r := rIxL K) ix_list (pv 2) pe_int (fun _ _ => rfl)) (nomark _))))))))))))))))))))))), ?_⟩
    walk_at "g"; walk_at "mkL"; intro row H1 hrow O
    have ok : RowOk a (.lst [.ref a, .int 0, .int 141, .int 0]) := ⟨0, 141, 0, rfl, by decide, by decide, by decide, by decide⟩
    walk_at "g"
    refine use_law_taken O 0 rfl ok hS (by omega) (fun u o H2 hu0 hu1 ok O => ?_)
    simp only [List.set] at O
    walk_at "g"
    refine use_law_taken O 0 rfl ok hS (by omega) (fun v o H3 hv0 hv1 ok O => ?_)
    simp only [List.set] at O
    walk_at "g"; walk_at "mkL"; intro p H4 hp O
    walk_at "g"
    have tk : TrickOk (2 + u) 1 (v - 4) := ⟨by omega, by omega, by omega⟩
    generalize hb : 2 + u = b at *
    generalize ht : v - 4 = t at *
    refine use_Trick O tk (fun x B H5 hx sB O ha => ?_)
    replace hS := sB.seq hS
    walk_at "g"
    refine use_law_number O 1 rfl ok hS (fun n o H6 hn0 hn1 ok O => ?_)
    simp only [List.set] at O
    walk_at "g"
    refine ⟨row, a, o, ns, rfl, O.get 1 rfl, ok, O.seq hS, fun l xs pc o' B1 H7 lok ll lw sB1 tl ok O1 => ?_⟩
    have s67 : Same B H7 := fun q w e => O1.st _ _ (sB1 _ _ (by
      rw [del1_ne (fun z => by
        have no : B row = none := O.no (row, o) (by simp)
        rw [z, no] at e; cases e)]
      exact O.st _ _ e))
    have gp7 : H7 p = some (.lst [.int b, .int 1, .int t]) := O1.st _ _ (sB1 _ _ (by
      rw [del1_ne (fun z => by
        have nd := O.nd
        simp [z] at nd)]
      exact O.get 0 rfl))
    have ha7 := ha.same s67
    have tl7 := tl.same O1.st
    walk_at "g"
    refine ⟨pc, l, rfl, ⟨xs, O1.get 0 rfl, tl7.1, lok, tl7.2⟩, by omega, fun ph xs2 H8 s8 n8 g8 tA => ?_⟩
    walk_at "g"
    have ha8 := ha7.same s8
    have gp8 := s8 _ _ gp7
    clear O O1 sB1 tl tl7 ha7 gp7 s8 s67 hS ha sB
    have O := Own.refl H8
    refine ⟨fun σ H' => ∃ (pr q : Addr) (n1 n2 : Int), σ = [some (.ref a), some (.ref row), some (.ref p), some (.ref x), some (.int n), some (.ref ph), some (.ref pr), none, none, none, none, none, none, none, none] ∧ Same H8 H' ∧ H' pr = some (.lst [.ref q]) ∧ H' q = some (.tup [.int n1, .int n2]) ∧ PairsOk [(n1, n2)], ?_, ?_⟩
    · walk_at "g"
      refine ⟨p, b, 1, t, n, rfl, SqL.of gp8, tk, ?_⟩
      walk_at "g"
      refine a_it2 (fun c => ?_) (fun c => ?_)
      · walk_at "g"
        refine ⟨p, b, 1, t, n, rfl, SqL.of gp8, tk, ?_⟩
        generalize n / b ^ (1 : Int).toNat + t * (n % b ^ (1 : Int).toNat) = m at *
        walk_at "g"; walk_at "mkT"; intro q H9 hq O
        walk_at "g"; walk_at "mkL"; intro pr H10 hpr O
        walk_at "g"
        refine ⟨pr, q, n, m, rfl, O.st, O.get 0 rfl, O.get 1 rfl, fun y hy => ?_⟩
        obtain rfl := List.mem_singleton.mp hy
        exact ⟨⟨hn0, hn1⟩, by omega, by omega⟩
      · walk_at "g"; walk_at "mkT"; intro q H9 hq O
        walk_at "g"; walk_at "mkL"; intro pr H10 hpr O
        walk_at "g"
        refine ⟨pr, q, 7, 7, rfl, O.st, O.get 0 rfl, O.get 1 rfl, fun y hy => ?_⟩
        obtain rfl := List.mem_singleton.mp hy
        exact ⟨by decide, by decide⟩
    clear O
    rintro σ H9 ⟨pr, q, n1, n2, rfl, s9, gpr, gq, pok⟩
    have O := Own.refl H9
    walk_at "g"
    refine a_lstO O (.inl (SqL.of (s9 _ _ g8))) (fun hh H10 hhh O => ?_)
    walk_at "g"
    refine a_lstO O (.inl (SqL.of (O.st _ _ gpr))) (fun gg H11 hgg O => ?_)
    have ha := (ha8.same s9).same O.st
    have gp := O.st _ _ (s9 _ _ gp8)
    have tA2 := (tA.same s9).same O.st
    have gph := O.st _ _ (s9 _ _ g8)
    have ghh : H11 hh = some (.lst xs2) := O.get 1 rfl
    have ggg : H11 gg = some (.lst [.ref q]) := O.get 0 rfl
    replace gpr := O.st _ _ gpr
    replace gq := O.st _ _ gq
    have tH : TricksAt Z H11 hh l := by
      obtain ⟨ys, e, h1, h2, h3⟩ := tA2
      have e2 : ys = xs2 := by
        rcases e with e | e <;> rw [gph] at e <;> cases e <;> rfl
      subst e2
      exact ⟨ys, .inl ghh, h1, h2, h3⟩
    have rows : RowsT H11 [.ref q] (prs [(n1, n2)]) := by
      refine ⟨rfl, fun i y hy => ?_⟩
      cases i with
      | zero => cases hy; exact ⟨q, [n1, n2], rfl, rfl, gq⟩
      | succ i => cases hy
    clear O s9 gp8 ha8 tA hhh hgg g8 n8
    have O := Own.refl H11
    walk_at "g"
    refine ⟨x, hh, gg, b, 1, t, n, l, xs2, [.ref q], [(n1, n2)], rfl, ha, ⟨hn0, hn1⟩, tH, .inl ghh, ll, lw, .inl ggg, rows, ⟨Nat.le_refl 1, show 1 ≤ 10 by decide⟩, pok, fun p1 ws ps zs ms H12 O1 T => ?_⟩
    walk_at "g"
    obtain ⟨wl, wn⟩ := told_len T
    obtain ⟨B2, s2, O, tr, tz⟩ := told_base O1 T.tr T.tz
    clear O1
    refine ⟨p1, rfl, ⟨_, Own.sq O 0 rfl⟩, fun D hD => ?_⟩
    replace O := Own.new (o := .lst []) O hD
    refine lc_list (xs := wRef ws) (fun i H' => ∃ ks : List (Addr × List V), Own B2 ((D, .lst (wRef ks.reverse)) :: (wOwn ks ++ (p1, .lst (wRef ws)) :: wOwn ws)) H' ∧ ks.reverse.map (·.2) = (ws.take i).map (·.2)) ⟨[], O, rfl⟩ (fun i H' _ ⟨ks, O, _⟩ => SqL.of (O.ow (p1, .lst (wRef ws)) (by simp))) ?_ ?_
    · clear O
      rintro i y H' hy ⟨ks, O, ek⟩
      obtain ⟨w, hw, rfl⟩ := wRef_at hy
      have wm : w ∈ ws := List.mem_of_getElem? hw
      have kl : ks.length ≤ 9 := by
        have := congrArg List.length ek
        rw [List.length_map, List.length_map, List.length_reverse, List.length_take] at this
        omega
      walk_at "g"
      refine ⟨rfl, ?_⟩
      walk_at "g"
      refine a_lstO O (.inl (SqL.of (O.ow (w.1, .lst w.2) (List.mem_cons_of_mem _ (List.mem_append_right _ (List.mem_cons_of_mem _ (List.mem_map.mpr ⟨w, wm, rfl⟩))))))) (fun q2 H13 hq2 O => ?_)
      refine ⟨_, O.get 1 rfl, Nat.lt_of_lt_of_le (show _ < 1000 by rw [wRef_len, List.length_reverse]; omega) (by decide), (q2, w.2) :: ks, ?_, ?_⟩
      · have O := Own.put (u := .lst (wRef ks.reverse ++ [.ref q2])) O 1 rfl
        simp only [List.set] at O
        have e : wRef ((q2, w.2) :: ks).reverse = wRef ks.reverse ++ [.ref q2] := by unfold wRef; rw [List.reverse_cons, List.map_append]; rfl
        rw [e]
        exact O.perm (List.Perm.swap _ _ _)
      · rw [List.reverse_cons, List.map_append, ek, List.take_add_one, hw, List.map_append]; rfl
    clear O
    rintro H13 ⟨ks, O, ek⟩
    rw [wRef_len, List.take_length] at ek
    obtain ⟨B3, s3, O9, hf⟩ := Own.fixTo (New := (D, .lst (wRef ks.reverse)) :: wOwn ks) (Lw := (p1, .lst (wRef ws)) :: wOwn ws) O
    replace O := O9
    clear O9
    have gD : B3 D = some (.lst (wRef ks.reverse)) := hf _ List.mem_cons_self
    have gk : ∀ w ∈ ks.reverse, B3 w.1 = some (.lst w.2) := fun w hw => hf (w.1, .lst w.2) (List.mem_cons_of_mem _ (List.mem_map.mpr ⟨w, List.mem_reverse.mp hw, rfl⟩))
    clear hf
    generalize ks.reverse = kr at *
    walk_at "g"
    refine ⟨p1, rfl, ⟨_, Own.sq O 0 rfl⟩, ?_⟩
    refine for_list (xs := wRef ws) (fun i σ H' => ∃ v11, σ = [some (.ref a), some (.ref row), some (.ref p), some (.ref x), some (.int n), some (.ref ph), some (.ref pr), some (.ref hh), some (.ref gg), some (.ref p1), some (.ref D), v11, none, none, none] ∧ Own B3 ((p1, .lst (wRef ws)) :: wOwn (ws.drop i)) H') ⟨_, rfl, O⟩ (fun i σ H' _ ⟨_, _, O⟩ => Own.sq O 0 rfl) ?_ ?_
    · clear O
      rintro i y σ H' hy ⟨v11, rfl, O⟩
      obtain ⟨w, hw, rfl⟩ := wRef_at hy
      obtain ⟨il, ew⟩ := List.getElem?_eq_some_iff.mp hw
      have wn := wn w (List.mem_of_getElem? hw)
      rw [List.drop_eq_getElem_cons il, ew] at O
      replace O : Own B3 ((p1, .lst (wRef ws)) :: (w.1, .lst w.2) :: wOwn (ws.drop (i + 1))) H' := O
      walk_at "g"
      refine ⟨.inl ⟨rfl, _, Own.sq O 1 rfl⟩, ?_⟩
      walk_at "g"
      refine a_app O 1 rfl (by omega) (fun H14 O => ?_)
      simp only [List.set] at O
      walk_at "g"
      refine ⟨.inl ⟨rfl, _, Own.sq O 1 rfl⟩, ?_⟩
      refine ⟨w.1, _, rfl, rfl, O.get 1 rfl, ?_⟩
      have O := Own.put (u := .lst (w.2 ++ [V.str (Str.ofString "more")]).reverse) O 1 rfl
      simp only [List.set] at O
      walk_at "g"
      exact ⟨_, rfl, O.tail2⟩
    clear O
    rintro σ H14 ⟨v11, rfl, O⟩
    have st : Same H11 H14 := (s2.trans s3).trans O.st
    replace ha := ha.same st
    replace gp := st _ _ gp
    replace tH := tH.same st
    replace gph := st _ _ gph
    replace ghh := st _ _ ghh
    replace ggg := st _ _ ggg
    replace gpr := st _ _ gpr
    replace rows := rows.same st
    replace tA2 := tA2.same st
    replace tr := (tr.same s3).same O.st
    replace tz := (tz.same s3).same O.st
    replace gD := O.st _ _ gD
    replace gk : ∀ w ∈ kr, H14 w.1 = some (.lst w.2) := fun w hw => O.st _ _ (gk w hw)
    have due : ∀ {H'}, Same H14 H' → Dp K H' (.ref D) (.list ((toldD (ps.map (·.2)) b 1 t n l [(n1, n2)] ms).map .list)) := fun s => .lst (SqL.of (s _ _ gD)) (dp_refs (fun w hw => SqL.of (s _ _ (gk w hw))) (told_all (ek.trans T.rows) (tr.same s) (tz.same s)))
    have again : ∀ {H0 H' : Hp} {p2 : Addr} {ws2 : List (Addr × List V)} {ps2 : List (Addr × List Int)} {zs2 : List V} {ms2 : List Int}, Own H0 ((p2, .lst (wRef ws2)) :: wOwn ws2) H' → ToldIn b 1 t n l [(n1, n2)] H' ws2 ps2 zs2 ms2 → Dp K H' (.ref p2) (.list ((toldD (ps.map (·.2)) b 1 t n l [(n1, n2)] ms).map .list)) := fun O2 T2 => by
      have e1 := T.rg.one T2.rg T.up T2.up
      have e2 := up_same T.ah.sorted T2.ah.sorted (fun x => (T.ah.mem x).trans (T2.ah.mem x).symm)
      rw [e1, e2]
      exact .lst (Own.sq O2 0 rfl) (dp_refs (fun w hw => SqL.of (O2.ow (w.1, .lst w.2) (List.mem_cons_of_mem _ (List.mem_map.mpr ⟨w, hw, rfl⟩)))) (told_all T2.rows T2.tr T2.tz))
    have can := can_told (ps.map (·.2)) b 1 t n l [(n1, n2)] ms
    have dep := dep_told (ps.map (·.2)) b 1 t n l [(n1, n2)] ms
    generalize PyData.list ((toldD (ps.map (·.2)) b 1 t n l [(n1, n2)] ms).map .list) = dat at *
    clear O s2 s3 st ek T wn wl tr tz gk
    have items : ∀ y ∈ xs2, SameIt y := fun y hy => by
      obtain ⟨ys, e, h1, h2, h3⟩ := tH
      have e2 : ys = xs2 := by
        rcases e with e | e <;> rw [ghh] at e <;> cases e <;> rfl
      subst e2
      obtain ⟨i, hi⟩ := List.getElem?_of_mem hy
      obtain ⟨q5, _, _, e5, _⟩ := h3 i y hi
      exact .inr ⟨q5, e5⟩
    walk_at "h"
    with_reducible refine a_ifNoH (fun H' => Same H14 H') (fun QB hq => ?_) (fun H15 s15 => ?_)
    · walk_at "h"
      refine ⟨x, hh, gg, b, 1, t, n, l, xs2, [.ref q], [(n1, n2)], rfl, ha, ⟨hn0, hn1⟩, tH, .inl ghh, ll, lw, .inl ggg, rows, ⟨Nat.le_refl 1, show 1 ≤ 10 by decide⟩, pok, fun p2 ws2 ps2 zs2 ms2 H16 O2 T2 => ?_⟩
      have s16 := O2.st
      walk_at "h"
      refine a_neD (again O2 T2) (due s16) can dep ?_
      walk_at "h"
      refine a_neSL items (SqL.of (s16 _ _ ghh)) (SqL.of (s16 _ _ gph)) ?_
      walk_at "h"
      refine a_neSL (xs := [.ref q]) (fun y hy => .inr ⟨q, List.mem_singleton.mp hy⟩) (SqL.of (s16 _ _ ggg)) (SqL.of (s16 _ _ gpr)) ?_
      walk_at "h"
      exact hq _ s16
    walk_at "h"
    with_reducible refine a_ifNoH (fun H' => Same H15 H') (fun QB hq => ?_) (fun H16 s16 => ?_)
    · have gpq : SqL K H15 p [.int b, .int 1, .int t] := SqL.of (s15 _ _ gp)
      walk_at "h"
      refine use_Trick (Own.refl H15) tk (fun x3 B17 H17 hx3 sB17 O17 ha3 => ?_)
      have s17 : Same H14 H17 := (s15.trans sB17).trans O17.st
      walk_at "h"
      refine a_tupL O17 (SqL.of (s17 _ _ gph)) (fun t1 H18 ht1 O18 => ?_)
      have s18 : Same H14 H18 := (s15.trans sB17).trans O18.st
      walk_at "h"
      refine a_tupL O18 (SqL.of (s18 _ _ gpr)) (fun t2 H19 ht2 O19 => ?_)
      have s19 : Same H14 H19 := (s15.trans sB17).trans O19.st
      have tT : TricksAt Z H19 t1 l := by
        obtain ⟨ys, e, h1, h2, h3⟩ := tH.same s19
        have e2 : ys = xs2 := by
          rcases e with e | e <;> rw [s19 _ _ ghh] at e <;> cases e <;> rfl
        subst e2
        exact ⟨ys, .inr (O19.get 1 rfl), h1, h2, h3⟩
      walk_at "h"
      refine ⟨x3, t1, t2, b, 1, t, n, l, xs2, [.ref q], [(n1, n2)], rfl, ha3.up O19, ⟨hn0, hn1⟩, tT, .inr (O19.get 1 rfl), ll, lw, .inr (O19.get 0 rfl), rows.same s19, ⟨Nat.le_refl 1, show 1 ≤ 10 by decide⟩, pok, fun p3 ws3 ps3 zs3 ms3 H20 O20 T3 => ?_⟩
      walk_at "h"
      refine a_neD (again O20 T3) (due (s19.trans O20.st)) can dep ?_
      walk_at "h"
      exact hq _ ((sB17.trans O19.st).trans O20.st)
    have sN := s15.trans s16
    replace ha := ha.same sN
    replace gp := sN _ _ gp
    clear due again can dep items tH tA2 rows gD gph ghh ggg gpr sN s15 s16
    walk_at "h"
    have O := Own.refl H16
    refine use_Reckoner O ⟨hn0, hn1⟩ (fun xr dr lr tr H17 O => ?_)
    walk_at "h"
    refine use_Reckoner O ⟨hn0, hn1⟩ (fun xm dm lm tm H18 O => ?_)
    walk_at "h"
    refine ⟨xr, dr, _, rfl, O.get 4 rfl, no_step lr tr, ?_⟩
    have ha8 := ha.up O
    have gp8 := O.st _ _ gp
    have nd := O.nd
    simp only [List.map_cons, List.map_nil, List.nodup_cons, List.mem_cons, List.not_mem_nil, or_false, not_or] at nd
    have nox : ∀ q w, H16 q = some w → q ≠ xr ∧ q ≠ lr := fun q w e => by
      have z1 : H16 xr = none := O.no (xr, .ins Z.c_Reckoner dr (reckF lr tr)) (by simp)
      have z2 : H16 lr = none := O.no (lr, .lst [.int n]) (by simp)
      exact ⟨fun z => (by rw [z, z1] at e; cases e), fun z => (by rw [z, z2] at e; cases e)⟩
    walk_at "h"
    refine ⟨xr, dr, lr, tr, x, [], n, b, 1, t, [], rfl, O.get 4 rfl, O.get 5 rfl, Nat.zero_le _, O.get 6 rfl, Nat.zero_le _, ha8, fun t' H19 keep tn gt gx gl => ?_⟩
    have gxm := keep _ _ (fun z => by simp [z] at nd) (fun z => by simp [z] at nd) (O.get 0 rfl)
    have glm := keep _ _ (fun z => by simp [z] at nd) (fun z => by simp [z] at nd) (O.get 1 rfl)
    have gtm := keep _ _ (fun z => by simp [z] at nd) (fun z => by simp [z] at nd) (O.get 2 rfl)
    have gp9 := keep _ _ (nox _ _ gp).1 (nox _ _ gp).2 gp8
    have ha9 : TrickAt Z H19 x b 1 t := by
      obtain ⟨h1, dx, h2⟩ := ha
      exact ⟨h1, dx, keep _ _ (nox _ _ h2).1 (nox _ _ h2).2 (O.st _ _ h2)⟩
    clear O nd nox keep ha8 gp8 ha gp
    walk_at "h"
    refine ⟨xr, dr, _, rfl, gx, no_copy lr t', ?_⟩
    refine ⟨xr, dr, lr, t', n, [beh b 1 t n], [.ref x], rfl, gx, gl, ⟨hn0, hn1⟩, gt, fun x' dx' l' H20 O2 => ?_⟩
    walk_at "h"
    have gx0 := O2.st _ _ gx
    have gl0 := O2.st _ _ gl
    have gt0 := O2.st _ _ gt
    have gxm0 := O2.st _ _ gxm
    have glm0 := O2.st _ _ glm
    have gtm0 := O2.st _ _ gtm
    have gp0 := O2.st _ _ gp9
    have ne : ∀ q w, H19 q = some w → q ≠ x' ∧ q ≠ l' := fun q w e => by
      have z1 : H19 x' = none := O2.no (x', .ins Z.c_Reckoner dx' (reckF l' t')) (by simp)
      have z2 : H19 l' = none := O2.no (l', .lst ((n :: [beh b 1 t n]).map V.int)) (by simp)
      exact ⟨fun z => (by rw [z, z1] at e; cases e), fun z => (by rw [z, z2] at e; cases e)⟩
    with_reducible refine a_ifNoH (fun H' => H' xr = some (.ins Z.c_Reckoner dr (reckF lr t')) ∧ H' lr = some (.lst (([n] ++ [beh b 1 t n]).map V.int)) ∧ H' xm = some (.ins Z.c_Reckoner dm (reckF lm tm)) ∧ H' lm = some (.lst [.int n]) ∧ (∃ t2, H' x' = some (.ins Z.c_Reckoner dx' (reckF l' t2))) ∧ H' l' = some (.lst [.int n]) ∧ H' p = some (.lst [.int b, .int 1, .int t]) ∧ TrickAt Z H' x b 1 t) (fun QB hq => ?_) (fun H21 hH => ?_)
    · walk_at "h"
      refine ⟨x', dx', _, rfl, O2.get 0 rfl, no_undo l' t', ?_⟩
      refine ⟨x', dx', l', t', [.ref x], rfl, O2.get 0 rfl, gt0, .inr ⟨[], .ref x, [n], beh b 1 t n, rfl, O2.get 1 rfl, fun t2 H22 keep tn2 gt2 gx2 gl2 => ?_⟩⟩
      have kp : ∀ q w, H19 q = some w → H22 q = some w := fun q w e => keep _ _ (ne _ _ e).1 (ne _ _ e).2 (O2.st _ _ e)
      walk_at "h"
      refine ⟨xr, dr, _, rfl, kp _ _ gx, xr, dr, lr, t', _, rfl, kp _ _ gx, kp _ _ gt, 1, rfl, by decide, ?_⟩
      walk_at "h"
      refine ⟨xm, dm, _, rfl, kp _ _ gxm, xm, dm, lm, tm, _, rfl, kp _ _ gxm, kp _ _ gtm, 0, rfl, by decide, ?_⟩
      walk_at "h"
      refine ⟨x', dx', _, rfl, gx2, x', dx', l', t2, _, rfl, gx2, gt2, 0, rfl, by decide, ?_⟩
      walk_at "h"
      refine ⟨xm, dm, _, rfl, kp _ _ gxm, no_undo lm tm, ?_⟩
      refine ⟨xm, dm, lm, tm, [], rfl, kp _ _ gxm, kp _ _ gtm, .inl ⟨rfl, fun H23 s23 => ?_⟩⟩
      walk_at "h"
      refine hq _ ⟨s23 _ _ (kp _ _ gx), s23 _ _ (kp _ _ gl), s23 _ _ (kp _ _ gxm), s23 _ _ (kp _ _ glm), ⟨_, s23 _ _ gx2⟩, s23 _ _ gl2, s23 _ _ (kp _ _ gp9), ?_⟩
      obtain ⟨h1, dx, h2⟩ := ha9
      exact ⟨h1, dx, s23 _ _ (kp _ _ h2)⟩
    obtain ⟨kx, kl, kxm, klm, ⟨t2, kx2⟩, kl2, kp, kha⟩ := hH
    have gpq : SqL K H21 p [.int b, .int 1, .int t] := SqL.of kp
    walk_at "g"
    refine use_Reckoner_now kx kl rfl ?_
    walk_at "g"
    refine ⟨p, b, 1, t, n, rfl, gpq, tk, ?_⟩
    walk_at "g"
    refine a_itT (show beh b 1 t n = _ from rfl) ?_
    walk_at "g"
    refine use_Reckoner_now kx2 kl2 rfl ?_
    walk_at "g"
    refine use_Reckoner_now kxm klm rfl ?_
    walk_at "g"
    refine use_Trick_times kha ?_
    walk_at "g"
    rw [show (decide (t = t)) = true from decide_eq_true rfl]
    exact h _

end
theorem all_mk {l : PySem.W.OpenLaw} {w : World} {K : Frag} {h : Heap} {mg : Str → Option Value} {fa f0 f1 f2 f3 f4 f5 f6 f7 f8 f9 f10 f11 f12 f13 f14 f15 f16 f17 f18 f19 f20 f21 f22 f23 f24 f25 f26 f27 f28 f29 f30 f31 f32 f33 f34 f35 f36 f37 f38 f39 f40 f41 f42 f43 f44 f45 f46 f47 f48 f49 f50 CTrick CReckoner P7 P8 P9 P34 : Addr} (X : K.In h) (G : h.Ns mainGlobals mg) (hfa : mg "law" = some (.ref fa))
    {od0 an0 : Option Addr} {sl0 : Array (Option Value)} {oc0 kV0 dc0 pm0 ct0 cd0 : Value}
    {od1 an1 : Option Addr} {sl1 : Array (Option Value)} {oc1 kV1 dc1 pm1 ct1 cd1 : Value}
    {od2 an2 : Option Addr} {sl2 : Array (Option Value)} {oc2 kV2 dc2 pm2 ct2 cd2 : Value}
    {od3 an3 : Option Addr} {sl3 : Array (Option Value)} {oc3 kV3 dc3 pm3 ct3 cd3 : Value}
    {od4 an4 : Option Addr} {sl4 : Array (Option Value)} {oc4 kV4 dc4 pm4 ct4 cd4 : Value}
    {od5 an5 : Option Addr} {sl5 : Array (Option Value)} {oc5 kV5 dc5 pm5 ct5 cd5 : Value}
    {od6 an6 : Option Addr} {sl6 : Array (Option Value)} {oc6 kV6 dc6 pm6 ct6 cd6 : Value}
    {od7 an7 : Option Addr} {sl7 : Array (Option Value)} {oc7 kV7 dc7 pm7 ct7 cd7 : Value}
    {pR7 : List Value}
    {od8 an8 : Option Addr} {sl8 : Array (Option Value)} {oc8 kV8 dc8 pm8 ct8 cd8 : Value}
    {pR8 : List Value}
    {od9 an9 : Option Addr} {sl9 : Array (Option Value)} {oc9 kV9 dc9 pm9 ct9 cd9 : Value}
    {pR9 : List Value}
    {od10 an10 : Option Addr} {sl10 : Array (Option Value)} {oc10 kV10 dc10 pm10 ct10 cd10 : Value}
    {od11 an11 : Option Addr} {sl11 : Array (Option Value)} {oc11 kV11 dc11 pm11 ct11 cd11 : Value}
    {od12 an12 : Option Addr} {sl12 : Array (Option Value)} {oc12 kV12 dc12 pm12 ct12 cd12 : Value}
    {od13 an13 : Option Addr} {sl13 : Array (Option Value)} {oc13 kV13 dc13 pm13 ct13 cd13 : Value}
    {od14 an14 : Option Addr} {sl14 : Array (Option Value)} {oc14 kV14 dc14 pm14 ct14 cd14 : Value}
    {od15 an15 : Option Addr} {sl15 : Array (Option Value)} {oc15 kV15 dc15 pm15 ct15 cd15 : Value}
    {od16 an16 : Option Addr} {sl16 : Array (Option Value)} {oc16 kV16 dc16 pm16 ct16 cd16 : Value}
    {od17 an17 : Option Addr} {sl17 : Array (Option Value)} {oc17 kV17 dc17 pm17 ct17 cd17 : Value}
    {od18 an18 : Option Addr} {sl18 : Array (Option Value)} {oc18 kV18 dc18 pm18 ct18 cd18 : Value}
    {od19 an19 : Option Addr} {sl19 : Array (Option Value)} {oc19 kV19 dc19 pm19 ct19 cd19 : Value}
    {od20 an20 : Option Addr} {sl20 : Array (Option Value)} {oc20 kV20 dc20 pm20 ct20 cd20 : Value}
    {od21 an21 : Option Addr} {sl21 : Array (Option Value)} {oc21 kV21 dc21 pm21 ct21 cd21 : Value}
    {od22 an22 : Option Addr} {sl22 : Array (Option Value)} {oc22 kV22 dc22 pm22 ct22 cd22 : Value}
    {od23 an23 : Option Addr} {sl23 : Array (Option Value)} {oc23 kV23 dc23 pm23 ct23 cd23 : Value}
    {od24 an24 : Option Addr} {sl24 : Array (Option Value)} {oc24 kV24 dc24 pm24 ct24 cd24 : Value}
    {od25 an25 : Option Addr} {sl25 : Array (Option Value)} {oc25 kV25 dc25 pm25 ct25 cd25 : Value}
    {od26 an26 : Option Addr} {sl26 : Array (Option Value)} {oc26 kV26 dc26 pm26 ct26 cd26 : Value}
    {od27 an27 : Option Addr} {sl27 : Array (Option Value)} {oc27 kV27 dc27 pm27 ct27 cd27 : Value}
    {od28 an28 : Option Addr} {sl28 : Array (Option Value)} {oc28 kV28 dc28 pm28 ct28 cd28 : Value}
    {od29 an29 : Option Addr} {sl29 : Array (Option Value)} {oc29 kV29 dc29 pm29 ct29 cd29 : Value}
    {od30 an30 : Option Addr} {sl30 : Array (Option Value)} {oc30 kV30 dc30 pm30 ct30 cd30 : Value}
    {od31 an31 : Option Addr} {sl31 : Array (Option Value)} {oc31 kV31 dc31 pm31 ct31 cd31 : Value}
    {od32 an32 : Option Addr} {sl32 : Array (Option Value)} {oc32 kV32 dc32 pm32 ct32 cd32 : Value}
    {od33 an33 : Option Addr} {sl33 : Array (Option Value)} {oc33 kV33 dc33 pm33 ct33 cd33 : Value}
    {od34 an34 : Option Addr} {sl34 : Array (Option Value)} {oc34 kV34 dc34 pm34 ct34 cd34 : Value}
    {pR34 : List Value}
    {od35 an35 : Option Addr} {sl35 : Array (Option Value)} {oc35 kV35 dc35 pm35 ct35 cd35 : Value}
    {od36 an36 : Option Addr} {sl36 : Array (Option Value)} {oc36 kV36 dc36 pm36 ct36 cd36 : Value}
    {od37 an37 : Option Addr} {sl37 : Array (Option Value)} {oc37 kV37 dc37 pm37 ct37 cd37 : Value}
    {od38 an38 : Option Addr} {sl38 : Array (Option Value)} {oc38 kV38 dc38 pm38 ct38 cd38 : Value}
    {od39 an39 : Option Addr} {sl39 : Array (Option Value)} {oc39 kV39 dc39 pm39 ct39 cd39 : Value}
    {od40 an40 : Option Addr} {sl40 : Array (Option Value)} {oc40 kV40 dc40 pm40 ct40 cd40 : Value}
    {od41 an41 : Option Addr} {sl41 : Array (Option Value)} {oc41 kV41 dc41 pm41 ct41 cd41 : Value}
    {od42 an42 : Option Addr} {sl42 : Array (Option Value)} {oc42 kV42 dc42 pm42 ct42 cd42 : Value}
    {od43 an43 : Option Addr} {sl43 : Array (Option Value)} {oc43 kV43 dc43 pm43 ct43 cd43 : Value}
    {od44 an44 : Option Addr} {sl44 : Array (Option Value)} {oc44 kV44 dc44 pm44 ct44 cd44 : Value}
    {od45 an45 : Option Addr} {sl45 : Array (Option Value)} {oc45 kV45 dc45 pm45 ct45 cd45 : Value}
    {od46 an46 : Option Addr} {sl46 : Array (Option Value)} {oc46 kV46 dc46 pm46 ct46 cd46 : Value}
    {od47 an47 : Option Addr} {sl47 : Array (Option Value)} {oc47 kV47 dc47 pm47 ct47 cd47 : Value}
    {od48 an48 : Option Addr} {sl48 : Array (Option Value)} {oc48 kV48 dc48 pm48 ct48 cd48 : Value}
    {od49 an49 : Option Addr} {sl49 : Array (Option Value)} {oc49 kV49 dc49 pm49 ct49 cd49 : Value}
    {od50 an50 : Option Addr} {sl50 : Array (Option Value)} {oc50 kV50 dc50 pm50 ct50 cd50 : Value}
    {tk_LEAST_BASE : Tok}
    {tk_MOST_BASE : Tok}
    {tk_MOST_NUMBER : Tok}
    {tk_MOST_DIVISOR : Tok}
    {tk_MOST_TAKE : Tok}
    {tk_MOST_TIMES : Tok}
    {tk_MOST_ROUNDS : Tok}
    {tk_MOST_TRICKS : Tok}
    {tk_MOST_WIDE : Tok}
    {tk_MOST_CHAIN_DIVISOR : Tok}
    {tk_MOST_LENGTH : Tok}
    {tk_MOST_PAIRS : Tok}
    (a0 : PySem.W.nsIn K mainGlobals "is_from" = some (some (.ref f0)))
    (l0 : K.lookup f0 = some ⟨oc0, od0, .func (PySem.W.fnOf "is_from" "is_from" (defArgs s_is_from) (defBody s_is_from) (defScope s_is_from) .none kV0 dc0 pm0 an0 cd0 ct0), sl0⟩)
    (c0 : PySem.W.codeIn K cd0 "is_from" = true)
    (k0 : PySem.W.keepIn K (.ref f0) = true)
    (a1 : PySem.W.nsIn K mainGlobals "need_base" = some (some (.ref f1)))
    (l1 : K.lookup f1 = some ⟨oc1, od1, .func (PySem.W.fnOf "need_base" "need_base" (defArgs s_need_base) (defBody s_need_base) (defScope s_need_base) .none kV1 dc1 pm1 an1 cd1 ct1), sl1⟩)
    (c1 : PySem.W.codeIn K cd1 "need_base" = true)
    (k1 : PySem.W.keepIn K (.ref f1) = true)
    (a2 : PySem.W.nsIn K mainGlobals "need_number" = some (some (.ref f2)))
    (l2 : K.lookup f2 = some ⟨oc2, od2, .func (PySem.W.fnOf "need_number" "need_number" (defArgs s_need_number) (defBody s_need_number) (defScope s_need_number) .none kV2 dc2 pm2 an2 cd2 ct2), sl2⟩)
    (c2 : PySem.W.codeIn K cd2 "need_number" = true)
    (k2 : PySem.W.keepIn K (.ref f2) = true)
    (a3 : PySem.W.nsIn K mainGlobals "need_divisor" = some (some (.ref f3)))
    (l3 : K.lookup f3 = some ⟨oc3, od3, .func (PySem.W.fnOf "need_divisor" "need_divisor" (defArgs s_need_divisor) (defBody s_need_divisor) (defScope s_need_divisor) .none kV3 dc3 pm3 an3 cd3 ct3), sl3⟩)
    (c3 : PySem.W.codeIn K cd3 "need_divisor" = true)
    (k3 : PySem.W.keepIn K (.ref f3) = true)
    (a4 : PySem.W.nsIn K mainGlobals "common" = some (some (.ref f4)))
    (l4 : K.lookup f4 = some ⟨oc4, od4, .func (PySem.W.fnOf "common" "common" (defArgs s_common) (defBody s_common) (defScope s_common) .none kV4 dc4 pm4 an4 cd4 ct4), sl4⟩)
    (c4 : PySem.W.codeIn K cd4 "common" = true)
    (k4 : PySem.W.keepIn K (.ref f4) = true)
    (a5 : PySem.W.nsIn K mainGlobals "power" = some (some (.ref f5)))
    (l5 : K.lookup f5 = some ⟨oc5, od5, .func (PySem.W.fnOf "power" "power" (defArgs s_power) (defBody s_power) (defScope s_power) .none kV5 dc5 pm5 an5 cd5 ct5), sl5⟩)
    (c5 : PySem.W.codeIn K cd5 "power" = true)
    (k5 : PySem.W.keepIn K (.ref f5) = true)
    (a6 : PySem.W.findIn K (.ref CTrick) "__init__" = some (some (.ref f6)))
    (i6 : PySem.W.isFn K (.ref f6) = true)
    (l6 : K.lookup f6 = some ⟨oc6, od6, .func (PySem.W.fnOf "__init__" "Trick.__init__" (defArgs s_Trick_init) (defBody s_Trick_init) (defScope s_Trick_init) .none kV6 dc6 pm6 an6 cd6 ct6), sl6⟩)
    (c6 : PySem.W.codeIn K cd6 "Trick.__init__" = true)
    (k6 : PySem.W.keepIn K (.ref f6) = true)
    (a7 : PySem.W.findIn K (.ref CTrick) "base" = some (some (.ref P7)))
    (pg7 : PySem.W.specialIn K (.ref P7) "__get__" = some (some (.builtin "property.__get__")))
    (pt7 : PySem.W.takesIn K (.ref P7) = some true)
    (pr7 : PySem.W.recIn K P7 "property" = some (.ref f7 :: pR7))
    (l7 : K.lookup f7 = some ⟨oc7, od7, .func (PySem.W.fnOf "base" "Trick.base" (defArgs s_Trick_base) (defBody s_Trick_base) (defScope s_Trick_base) .none kV7 dc7 pm7 an7 cd7 ct7), sl7⟩)
    (c7 : PySem.W.codeIn K cd7 "Trick.base" = true)
    (k7 : PySem.W.keepIn K (.ref f7) = true)
    (a8 : PySem.W.findIn K (.ref CTrick) "take" = some (some (.ref P8)))
    (pg8 : PySem.W.specialIn K (.ref P8) "__get__" = some (some (.builtin "property.__get__")))
    (pt8 : PySem.W.takesIn K (.ref P8) = some true)
    (pr8 : PySem.W.recIn K P8 "property" = some (.ref f8 :: pR8))
    (l8 : K.lookup f8 = some ⟨oc8, od8, .func (PySem.W.fnOf "take" "Trick.take" (defArgs s_Trick_take) (defBody s_Trick_take) (defScope s_Trick_take) .none kV8 dc8 pm8 an8 cd8 ct8), sl8⟩)
    (c8 : PySem.W.codeIn K cd8 "Trick.take" = true)
    (k8 : PySem.W.keepIn K (.ref f8) = true)
    (a9 : PySem.W.findIn K (.ref CTrick) "times" = some (some (.ref P9)))
    (pg9 : PySem.W.specialIn K (.ref P9) "__get__" = some (some (.builtin "property.__get__")))
    (pt9 : PySem.W.takesIn K (.ref P9) = some true)
    (pr9 : PySem.W.recIn K P9 "property" = some (.ref f9 :: pR9))
    (l9 : K.lookup f9 = some ⟨oc9, od9, .func (PySem.W.fnOf "times" "Trick.times" (defArgs s_Trick_times) (defBody s_Trick_times) (defScope s_Trick_times) .none kV9 dc9 pm9 an9 cd9 ct9), sl9⟩)
    (c9 : PySem.W.codeIn K cd9 "Trick.times" = true)
    (k9 : PySem.W.keepIn K (.ref f9) = true)
    (a10 : PySem.W.nsIn K mainGlobals "need_trick" = some (some (.ref f10)))
    (l10 : K.lookup f10 = some ⟨oc10, od10, .func (PySem.W.fnOf "need_trick" "need_trick" (defArgs s_need_trick) (defBody s_need_trick) (defScope s_need_trick) .none kV10 dc10 pm10 an10 cd10 ct10), sl10⟩)
    (c10 : PySem.W.codeIn K cd10 "need_trick" = true)
    (k10 : PySem.W.keepIn K (.ref f10) = true)
    (a11 : PySem.W.nsIn K mainGlobals "behind" = some (some (.ref f11)))
    (l11 : K.lookup f11 = some ⟨oc11, od11, .func (PySem.W.fnOf "behind" "behind" (defArgs s_behind) (defBody s_behind) (defScope s_behind) .none kV11 dc11 pm11 an11 cd11 ct11), sl11⟩)
    (c11 : PySem.W.codeIn K cd11 "behind" = true)
    (k11 : PySem.W.keepIn K (.ref f11) = true)
    (a12 : PySem.W.nsIn K mainGlobals "trail" = some (some (.ref f12)))
    (l12 : K.lookup f12 = some ⟨oc12, od12, .func (PySem.W.fnOf "trail" "trail" (defArgs s_trail) (defBody s_trail) (defScope s_trail) .none kV12 dc12 pm12 an12 cd12 ct12), sl12⟩)
    (c12 : PySem.W.codeIn K cd12 "trail" = true)
    (k12 : PySem.W.keepIn K (.ref f12) = true)
    (a13 : PySem.W.nsIn K mainGlobals "ahead" = some (some (.ref f13)))
    (l13 : K.lookup f13 = some ⟨oc13, od13, .func (PySem.W.fnOf "ahead" "ahead" (defArgs s_ahead) (defBody s_ahead) (defScope s_ahead) .none kV13 dc13 pm13 an13 cd13 ct13), sl13⟩)
    (c13 : PySem.W.codeIn K cd13 "ahead" = true)
    (k13 : PySem.W.keepIn K (.ref f13) = true)
    (a14 : PySem.W.nsIn K mainGlobals "wide_of_ends" = some (some (.ref f14)))
    (l14 : K.lookup f14 = some ⟨oc14, od14, .func (PySem.W.fnOf "wide_of" "wide_of" (defArgs s_wide_of_ends) (defBody s_wide_of_ends) (defScope s_wide_of_ends) .none kV14 dc14 pm14 an14 cd14 ct14), sl14⟩)
    (c14 : PySem.W.codeIn K cd14 "wide_of" = true)
    (k14 : PySem.W.keepIn K (.ref f14) = true)
    (a15 : PySem.W.nsIn K mainGlobals "bound_by" = some (some (.ref f15)))
    (l15 : K.lookup f15 = some ⟨oc15, od15, .func (PySem.W.fnOf "bound_by" "bound_by" (defArgs s_bound_by) (defBody s_bound_by) (defScope s_bound_by) .none kV15 dc15 pm15 an15 cd15 ct15), sl15⟩)
    (c15 : PySem.W.codeIn K cd15 "bound_by" = true)
    (k15 : PySem.W.keepIn K (.ref f15) = true)
    (a16 : PySem.W.nsIn K mainGlobals "ring_from" = some (some (.ref f16)))
    (l16 : K.lookup f16 = some ⟨oc16, od16, .func (PySem.W.fnOf "ring_from" "ring_from" (defArgs s_ring_from) (defBody s_ring_from) (defScope s_ring_from) .none kV16 dc16 pm16 an16 cd16 ct16), sl16⟩)
    (c16 : PySem.W.codeIn K cd16 "ring_from" = true)
    (k16 : PySem.W.keepIn K (.ref f16) = true)
    (a17 : PySem.W.nsIn K mainGlobals "rings" = some (some (.ref f17)))
    (l17 : K.lookup f17 = some ⟨oc17, od17, .func (PySem.W.fnOf "rings" "rings" (defArgs s_rings) (defBody s_rings) (defScope s_rings) .none kV17 dc17 pm17 an17 cd17 ct17), sl17⟩)
    (c17 : PySem.W.codeIn K cd17 "rings" = true)
    (k17 : PySem.W.keepIn K (.ref f17) = true)
    (a18 : PySem.W.nsIn K mainGlobals "first_fail_judging" = some (some (.ref f18)))
    (l18 : K.lookup f18 = some ⟨oc18, od18, .func (PySem.W.fnOf "first_fail" "first_fail" (defArgs s_first_fail_judging) (defBody s_first_fail_judging) (defScope s_first_fail_judging) .none kV18 dc18 pm18 an18 cd18 ct18), sl18⟩)
    (c18 : PySem.W.codeIn K cd18 "first_fail" = true)
    (k18 : PySem.W.keepIn K (.ref f18) = true)
    (a19 : PySem.W.nsIn K mainGlobals "word_of" = some (some (.ref f19)))
    (l19 : K.lookup f19 = some ⟨oc19, od19, .func (PySem.W.fnOf "word_of" "word_of" (defArgs s_word_of) (defBody s_word_of) (defScope s_word_of) .none kV19 dc19 pm19 an19 cd19 ct19), sl19⟩)
    (c19 : PySem.W.codeIn K cd19 "word_of" = true)
    (k19 : PySem.W.keepIn K (.ref f19) = true)
    (a20 : PySem.W.nsIn K mainGlobals "multipliers" = some (some (.ref f20)))
    (l20 : K.lookup f20 = some ⟨oc20, od20, .func (PySem.W.fnOf "multipliers" "multipliers" (defArgs s_multipliers) (defBody s_multipliers) (defScope s_multipliers) .none kV20 dc20 pm20 an20 cd20 ct20), sl20⟩)
    (c20 : PySem.W.codeIn K cd20 "multipliers" = true)
    (k20 : PySem.W.keepIn K (.ref f20) = true)
    (a21 : PySem.W.nsIn K mainGlobals "divisors" = some (some (.ref f21)))
    (l21 : K.lookup f21 = some ⟨oc21, od21, .func (PySem.W.fnOf "divisors" "divisors" (defArgs s_divisors) (defBody s_divisors) (defScope s_divisors) .none kV21 dc21 pm21 an21 cd21 ct21), sl21⟩)
    (c21 : PySem.W.codeIn K cd21 "divisors" = true)
    (k21 : PySem.W.keepIn K (.ref f21) = true)
    (a22 : PySem.W.nsIn K mainGlobals "need_tricks" = some (some (.ref f22)))
    (l22 : K.lookup f22 = some ⟨oc22, od22, .func (PySem.W.fnOf "need_tricks" "need_tricks" (defArgs s_need_tricks) (defBody s_need_tricks) (defScope s_need_tricks) .none kV22 dc22 pm22 an22 cd22 ct22), sl22⟩)
    (c22 : PySem.W.codeIn K cd22 "need_tricks" = true)
    (k22 : PySem.W.keepIn K (.ref f22) = true)
    (a23 : PySem.W.nsIn K mainGlobals "behind_all" = some (some (.ref f23)))
    (l23 : K.lookup f23 = some ⟨oc23, od23, .func (PySem.W.fnOf "behind_all" "behind_all" (defArgs s_behind_all) (defBody s_behind_all) (defScope s_behind_all) .none kV23 dc23 pm23 an23 cd23 ct23), sl23⟩)
    (c23 : PySem.W.codeIn K cd23 "behind_all" = true)
    (k23 : PySem.W.keepIn K (.ref f23) = true)
    (a24 : PySem.W.nsIn K mainGlobals "chained" = some (some (.ref f24)))
    (l24 : K.lookup f24 = some ⟨oc24, od24, .func (PySem.W.fnOf "chained" "chained" (defArgs s_chained) (defBody s_chained) (defScope s_chained) .none kV24 dc24 pm24 an24 cd24 ct24), sl24⟩)
    (c24 : PySem.W.codeIn K cd24 "chained" = true)
    (k24 : PySem.W.keepIn K (.ref f24) = true)
    (a25 : PySem.W.nsIn K mainGlobals "wide_of_chains" = some (some (.ref f25)))
    (l25 : K.lookup f25 = some ⟨oc25, od25, .func (PySem.W.fnOf "wide_of" "wide_of" (defArgs s_wide_of_chains) (defBody s_wide_of_chains) (defScope s_wide_of_chains) .none kV25 dc25 pm25 an25 cd25 ct25), sl25⟩)
    (c25 : PySem.W.codeIn K cd25 "wide_of" = true)
    (k25 : PySem.W.keepIn K (.ref f25) = true)
    (a26 : PySem.W.nsIn K mainGlobals "need_chain" = some (some (.ref f26)))
    (l26 : K.lookup f26 = some ⟨oc26, od26, .func (PySem.W.fnOf "need_chain" "need_chain" (defArgs s_need_chain) (defBody s_need_chain) (defScope s_need_chain) .none kV26 dc26 pm26 an26 cd26 ct26), sl26⟩)
    (c26 : PySem.W.codeIn K cd26 "need_chain" = true)
    (k26 : PySem.W.keepIn K (.ref f26) = true)
    (a27 : PySem.W.nsIn K mainGlobals "first_fail_chains" = some (some (.ref f27)))
    (l27 : K.lookup f27 = some ⟨oc27, od27, .func (PySem.W.fnOf "first_fail" "first_fail" (defArgs s_first_fail_chains) (defBody s_first_fail_chains) (defScope s_first_fail_chains) .none kV27 dc27 pm27 an27 cd27 ct27), sl27⟩)
    (c27 : PySem.W.codeIn K cd27 "first_fail" = true)
    (k27 : PySem.W.keepIn K (.ref f27) = true)
    (a28 : PySem.W.nsIn K mainGlobals "first_unlike" = some (some (.ref f28)))
    (l28 : K.lookup f28 = some ⟨oc28, od28, .func (PySem.W.fnOf "first_unlike" "first_unlike" (defArgs s_first_unlike) (defBody s_first_unlike) (defScope s_first_unlike) .none kV28 dc28 pm28 an28 cd28 ct28), sl28⟩)
    (c28 : PySem.W.codeIn K cd28 "first_unlike" = true)
    (k28 : PySem.W.keepIn K (.ref f28) = true)
    (a29 : PySem.W.nsIn K mainGlobals "chain_tells" = some (some (.ref f29)))
    (l29 : K.lookup f29 = some ⟨oc29, od29, .func (PySem.W.fnOf "chain_tells" "chain_tells" (defArgs s_chain_tells) (defBody s_chain_tells) (defScope s_chain_tells) .none kV29 dc29 pm29 an29 cd29 ct29), sl29⟩)
    (c29 : PySem.W.codeIn K cd29 "chain_tells" = true)
    (k29 : PySem.W.keepIn K (.ref f29) = true)
    (a30 : PySem.W.nsIn K mainGlobals "need_length" = some (some (.ref f30)))
    (l30 : K.lookup f30 = some ⟨oc30, od30, .func (PySem.W.fnOf "need_length" "need_length" (defArgs s_need_length) (defBody s_need_length) (defScope s_need_length) .none kV30 dc30 pm30 an30 cd30 ct30), sl30⟩)
    (c30 : PySem.W.codeIn K cd30 "need_length" = true)
    (k30 : PySem.W.keepIn K (.ref f30) = true)
    (a31 : PySem.W.nsIn K mainGlobals "slip_by" = some (some (.ref f31)))
    (l31 : K.lookup f31 = some ⟨oc31, od31, .func (PySem.W.fnOf "slip_by" "slip_by" (defArgs s_slip_by) (defBody s_slip_by) (defScope s_slip_by) .none kV31 dc31 pm31 an31 cd31 ct31), sl31⟩)
    (c31 : PySem.W.codeIn K cd31 "slip_by" = true)
    (k31 : PySem.W.keepIn K (.ref f31) = true)
    (a32 : PySem.W.nsIn K mainGlobals "good_divisors" = some (some (.ref f32)))
    (l32 : K.lookup f32 = some ⟨oc32, od32, .func (PySem.W.fnOf "good_divisors" "good_divisors" (defArgs s_good_divisors) (defBody s_good_divisors) (defScope s_good_divisors) .none kV32 dc32 pm32 an32 cd32 ct32), sl32⟩)
    (c32 : PySem.W.codeIn K cd32 "good_divisors" = true)
    (k32 : PySem.W.keepIn K (.ref f32) = true)
    (a33 : PySem.W.findIn K (.ref CReckoner) "__init__" = some (some (.ref f33)))
    (i33 : PySem.W.isFn K (.ref f33) = true)
    (l33 : K.lookup f33 = some ⟨oc33, od33, .func (PySem.W.fnOf "__init__" "Reckoner.__init__" (defArgs s_Reckoner_init) (defBody s_Reckoner_init) (defScope s_Reckoner_init) .none kV33 dc33 pm33 an33 cd33 ct33), sl33⟩)
    (c33 : PySem.W.codeIn K cd33 "Reckoner.__init__" = true)
    (k33 : PySem.W.keepIn K (.ref f33) = true)
    (a34 : PySem.W.findIn K (.ref CReckoner) "now" = some (some (.ref P34)))
    (pg34 : PySem.W.specialIn K (.ref P34) "__get__" = some (some (.builtin "property.__get__")))
    (pt34 : PySem.W.takesIn K (.ref P34) = some true)
    (pr34 : PySem.W.recIn K P34 "property" = some (.ref f34 :: pR34))
    (l34 : K.lookup f34 = some ⟨oc34, od34, .func (PySem.W.fnOf "now" "Reckoner.now" (defArgs s_Reckoner_now) (defBody s_Reckoner_now) (defScope s_Reckoner_now) .none kV34 dc34 pm34 an34 cd34 ct34), sl34⟩)
    (c34 : PySem.W.codeIn K cd34 "Reckoner.now" = true)
    (k34 : PySem.W.keepIn K (.ref f34) = true)
    (a35 : PySem.W.findIn K (.ref CReckoner) "step" = some (some (.ref f35)))
    (i35 : PySem.W.isFn K (.ref f35) = true)
    (l35 : K.lookup f35 = some ⟨oc35, od35, .func (PySem.W.fnOf "step" "Reckoner.step" (defArgs s_Reckoner_step) (defBody s_Reckoner_step) (defScope s_Reckoner_step) .none kV35 dc35 pm35 an35 cd35 ct35), sl35⟩)
    (c35 : PySem.W.codeIn K cd35 "Reckoner.step" = true)
    (k35 : PySem.W.keepIn K (.ref f35) = true)
    (a36 : PySem.W.findIn K (.ref CReckoner) "undo" = some (some (.ref f36)))
    (i36 : PySem.W.isFn K (.ref f36) = true)
    (l36 : K.lookup f36 = some ⟨oc36, od36, .func (PySem.W.fnOf "undo" "Reckoner.undo" (defArgs s_Reckoner_undo) (defBody s_Reckoner_undo) (defScope s_Reckoner_undo) .none kV36 dc36 pm36 an36 cd36 ct36), sl36⟩)
    (c36 : PySem.W.codeIn K cd36 "Reckoner.undo" = true)
    (k36 : PySem.W.keepIn K (.ref f36) = true)
    (a37 : PySem.W.findIn K (.ref CReckoner) "copy" = some (some (.ref f37)))
    (i37 : PySem.W.isFn K (.ref f37) = true)
    (l37 : K.lookup f37 = some ⟨oc37, od37, .func (PySem.W.fnOf "copy" "Reckoner.copy" (defArgs s_Reckoner_copy) (defBody s_Reckoner_copy) (defScope s_Reckoner_copy) .none kV37 dc37 pm37 an37 cd37 ct37), sl37⟩)
    (c37 : PySem.W.codeIn K cd37 "Reckoner.copy" = true)
    (k37 : PySem.W.keepIn K (.ref f37) = true)
    (a38 : PySem.W.findIn K (.ref CReckoner) "__len__" = some (some (.ref f38)))
    (i38 : PySem.W.isFn K (.ref f38) = true)
    (l38 : K.lookup f38 = some ⟨oc38, od38, .func (PySem.W.fnOf "__len__" "Reckoner.__len__" (defArgs s_Reckoner_len) (defBody s_Reckoner_len) (defScope s_Reckoner_len) .none kV38 dc38 pm38 an38 cd38 ct38), sl38⟩)
    (c38 : PySem.W.codeIn K cd38 "Reckoner.__len__" = true)
    (k38 : PySem.W.keepIn K (.ref f38) = true)
    (a39 : PySem.W.nsIn K mainGlobals "need_pairs" = some (some (.ref f39)))
    (l39 : K.lookup f39 = some ⟨oc39, od39, .func (PySem.W.fnOf "need_pairs" "need_pairs" (defArgs s_need_pairs) (defBody s_need_pairs) (defScope s_need_pairs) .none kV39 dc39 pm39 an39 cd39 ct39), sl39⟩)
    (c39 : PySem.W.codeIn K cd39 "need_pairs" = true)
    (k39 : PySem.W.keepIn K (.ref f39) = true)
    (a40 : PySem.W.nsIn K mainGlobals "factors_of" = some (some (.ref f40)))
    (l40 : K.lookup f40 = some ⟨oc40, od40, .func (PySem.W.fnOf "factors_of" "factors_of" (defArgs s_factors_of) (defBody s_factors_of) (defScope s_factors_of) .none kV40 dc40 pm40 an40 cd40 ct40), sl40⟩)
    (c40 : PySem.W.codeIn K cd40 "factors_of" = true)
    (k40 : PySem.W.keepIn K (.ref f40) = true)
    (a41 : PySem.W.nsIn K mainGlobals "fitting" = some (some (.ref f41)))
    (l41 : K.lookup f41 = some ⟨oc41, od41, .func (PySem.W.fnOf "fitting" "fitting" (defArgs s_fitting) (defBody s_fitting) (defScope s_fitting) .none kV41 dc41 pm41 an41 cd41 ct41), sl41⟩)
    (c41 : PySem.W.codeIn K cd41 "fitting" = true)
    (k41 : PySem.W.keepIn K (.ref f41) = true)
    (a42 : PySem.W.nsIn K mainGlobals "_law_taken" = some (some (.ref f42)))
    (l42 : K.lookup f42 = some ⟨oc42, od42, .func (PySem.W.fnOf "_law_taken" "_law_taken" (defArgs s_law_taken) (defBody s_law_taken) (defScope s_law_taken) .none kV42 dc42 pm42 an42 cd42 ct42), sl42⟩)
    (c42 : PySem.W.codeIn K cd42 "_law_taken" = true)
    (k42 : PySem.W.keepIn K (.ref f42) = true)
    (a43 : PySem.W.nsIn K mainGlobals "_law_power" = some (some (.ref f43)))
    (l43 : K.lookup f43 = some ⟨oc43, od43, .func (PySem.W.fnOf "_law_power" "_law_power" (defArgs s_law_power) (defBody s_law_power) (defScope s_law_power) .none kV43 dc43 pm43 an43 cd43 ct43), sl43⟩)
    (c43 : PySem.W.codeIn K cd43 "_law_power" = true)
    (k43 : PySem.W.keepIn K (.ref f43) = true)
    (a44 : PySem.W.nsIn K mainGlobals "_law_trick" = some (some (.ref f44)))
    (l44 : K.lookup f44 = some ⟨oc44, od44, .func (PySem.W.fnOf "_law_trick" "_law_trick" (defArgs s_law_trick) (defBody s_law_trick) (defScope s_law_trick) .none kV44 dc44 pm44 an44 cd44 ct44), sl44⟩)
    (c44 : PySem.W.codeIn K cd44 "_law_trick" = true)
    (k44 : PySem.W.keepIn K (.ref f44) = true)
    (a45 : PySem.W.nsIn K mainGlobals "_law_behind" = some (some (.ref f45)))
    (l45 : K.lookup f45 = some ⟨oc45, od45, .func (PySem.W.fnOf "_law_behind" "_law_behind" (defArgs s_law_behind) (defBody s_law_behind) (defScope s_law_behind) .none kV45 dc45 pm45 an45 cd45 ct45), sl45⟩)
    (c45 : PySem.W.codeIn K cd45 "_law_behind" = true)
    (k45 : PySem.W.keepIn K (.ref f45) = true)
    (a46 : PySem.W.nsIn K mainGlobals "_law_number" = some (some (.ref f46)))
    (l46 : K.lookup f46 = some ⟨oc46, od46, .func (PySem.W.fnOf "_law_number" "_law_number" (defArgs s_law_number) (defBody s_law_number) (defScope s_law_number) .none kV46 dc46 pm46 an46 cd46 ct46), sl46⟩)
    (c46 : PySem.W.codeIn K cd46 "_law_number" = true)
    (k46 : PySem.W.keepIn K (.ref f46) = true)
    (a47 : PySem.W.nsIn K mainGlobals "_law_chain" = some (some (.ref f47)))
    (l47 : K.lookup f47 = some ⟨oc47, od47, .func (PySem.W.fnOf "_law_chain" "_law_chain" (defArgs s_law_chain) (defBody s_law_chain) (defScope s_law_chain) .none kV47 dc47 pm47 an47 cd47 ct47), sl47⟩)
    (c47 : PySem.W.codeIn K cd47 "_law_chain" = true)
    (k47 : PySem.W.keepIn K (.ref f47) = true)
    (a48 : PySem.W.nsIn K mainGlobals "_law_tricks" = some (some (.ref f48)))
    (l48 : K.lookup f48 = some ⟨oc48, od48, .func (PySem.W.fnOf "_law_tricks" "_law_tricks" (defArgs s_law_tricks) (defBody s_law_tricks) (defScope s_law_tricks) .none kV48 dc48 pm48 an48 cd48 ct48), sl48⟩)
    (c48 : PySem.W.codeIn K cd48 "_law_tricks" = true)
    (k48 : PySem.W.keepIn K (.ref f48) = true)
    (a49 : PySem.W.nsIn K mainGlobals "_law_told" = some (some (.ref f49)))
    (l49 : K.lookup f49 = some ⟨oc49, od49, .func (PySem.W.fnOf "_law_told" "_law_told" (defArgs s_law_told) (defBody s_law_told) (defScope s_law_told) .none kV49 dc49 pm49 an49 cd49 ct49), sl49⟩)
    (c49 : PySem.W.codeIn K cd49 "_law_told" = true)
    (k49 : PySem.W.keepIn K (.ref f49) = true)
    (a50 : PySem.W.nsIn K mainGlobals "law" = some (some (.ref f50)))
    (l50 : K.lookup f50 = some ⟨oc50, od50, .func (PySem.W.fnOf "law" "law" (defArgs s_law) (defBody s_law) (defScope s_law) .none kV50 dc50 pm50 an50 cd50 ct50), sl50⟩)
    (c50 : PySem.W.codeIn K cd50 "law" = true)
    (k50 : PySem.W.keepIn K (.ref f50) = true)
    (aCTrick : PySem.W.nsIn K mainGlobals "Trick" = some (some (.ref CTrick)))
    (pgTrick : PySem.W.plainGet K CTrick Str.empty = true)
    (hdTrick : PySem.W.hasDictIn K CTrick = true)
    (poTrick : PySem.W.plainOver K CTrick = true)
    (saTrick : PySem.W.findIn K (.ref CTrick) "__setattr__" = some (some (.builtin "object.__setattr__")))
    (mkTrick : PySem.W.makesIn K CTrick = true)
    (kcTrick : PySem.W.keepIn K (.ref CTrick) = true)
    (icTrick : PySem.W.findIn K (.ref CTrick) "__class__" = some (some (.builtin "object.__class__")))
    (mcTrick : PySem.W.mroIn K CTrick (.type "object") = some true)
    (nfTrick_basis : PySem.W.findIn K (.ref CTrick) "basis" = some none)
    (nfTrick_many : PySem.W.findIn K (.ref CTrick) "many" = some none)
    (nfTrick_factor : PySem.W.findIn K (.ref CTrick) "factor" = some none)
    (nfTrick_block : PySem.W.findIn K (.ref CTrick) "block" = some none)
    (aCReckoner : PySem.W.nsIn K mainGlobals "Reckoner" = some (some (.ref CReckoner)))
    (pgReckoner : PySem.W.plainGet K CReckoner Str.empty = true)
    (hdReckoner : PySem.W.hasDictIn K CReckoner = true)
    (poReckoner : PySem.W.plainOver K CReckoner = true)
    (saReckoner : PySem.W.findIn K (.ref CReckoner) "__setattr__" = some (some (.builtin "object.__setattr__")))
    (mkReckoner : PySem.W.makesIn K CReckoner = true)
    (kcReckoner : PySem.W.keepIn K (.ref CReckoner) = true)
    (icReckoner : PySem.W.findIn K (.ref CReckoner) "__class__" = some (some (.builtin "object.__class__")))
    (mcReckoner : PySem.W.mroIn K CReckoner (.type "object") = some true)
    (nfReckoner_stood : PySem.W.findIn K (.ref CReckoner) "stood" = some none)
    (nfReckoner_deeds : PySem.W.findIn K (.ref CReckoner) "deeds" = some none)
    (snA : PySem.W.specialIn K (.builtin "object.__class__") "__get__" = some (some (.builtin "getset_descriptor.__get__")))
    (tkA : PySem.W.takesIn K (.builtin "object.__class__") = some true)
    (v_LEAST_BASE : PySem.W.nsIn K mainGlobals "LEAST_BASE" = some (some (.int (2) tk_LEAST_BASE)))
    (v_MOST_BASE : PySem.W.nsIn K mainGlobals "MOST_BASE" = some (some (.int (16) tk_MOST_BASE)))
    (v_MOST_NUMBER : PySem.W.nsIn K mainGlobals "MOST_NUMBER" = some (some (.int (10000000000000000000000000000000000000000) tk_MOST_NUMBER)))
    (v_MOST_DIVISOR : PySem.W.nsIn K mainGlobals "MOST_DIVISOR" = some (some (.int (100) tk_MOST_DIVISOR)))
    (v_MOST_TAKE : PySem.W.nsIn K mainGlobals "MOST_TAKE" = some (some (.int (2) tk_MOST_TAKE)))
    (v_MOST_TIMES : PySem.W.nsIn K mainGlobals "MOST_TIMES" = some (some (.int (100) tk_MOST_TIMES)))
    (v_MOST_ROUNDS : PySem.W.nsIn K mainGlobals "MOST_ROUNDS" = some (some (.int (200) tk_MOST_ROUNDS)))
    (v_MOST_TRICKS : PySem.W.nsIn K mainGlobals "MOST_TRICKS" = some (some (.int (4) tk_MOST_TRICKS)))
    (v_MOST_WIDE : PySem.W.nsIn K mainGlobals "MOST_WIDE" = some (some (.int (300) tk_MOST_WIDE)))
    (v_MOST_CHAIN_DIVISOR : PySem.W.nsIn K mainGlobals "MOST_CHAIN_DIVISOR" = some (some (.int (30) tk_MOST_CHAIN_DIVISOR)))
    (v_MOST_LENGTH : PySem.W.nsIn K mainGlobals "MOST_LENGTH" = some (some (.int (40) tk_MOST_LENGTH)))
    (v_MOST_PAIRS : PySem.W.nsIn K mainGlobals "MOST_PAIRS" = some (some (.int (10) tk_MOST_PAIRS)))
    (z_isinstance : PySem.W.nsIn K mainGlobals "isinstance" = some none)
    (z_int : PySem.W.nsIn K mainGlobals "int" = some none)
    (z_bool : PySem.W.nsIn K mainGlobals "bool" = some none)
    (z_abs : PySem.W.nsIn K mainGlobals "abs" = some none)
    (z_range : PySem.W.nsIn K mainGlobals "range" = some none)
    (z_sorted : PySem.W.nsIn K mainGlobals "sorted" = some none)
    (z_tuple : PySem.W.nsIn K mainGlobals "tuple" = some none)
    (z_min : PySem.W.nsIn K mainGlobals "min" = some none)
    (z_enumerate : PySem.W.nsIn K mainGlobals "enumerate" = some none)
    (z_list : PySem.W.nsIn K mainGlobals "list" = some none)
    (z_len : PySem.W.nsIn K mainGlobals "len" = some none)
    (z_all : PySem.W.nsIn K mainGlobals "all" = some none)
    : ∃ fd : FuncData, (∀ (s : Shared) (v : Value), BindsTo s fd ⟨[v], []⟩ [("_law_script", v)]) ∧ ∀ base : Heap, K.In base → base.Ns mainGlobals mg → FnOk l.prog w K mg base CX0 6 fa fd ["_law_script"] (sp_law K) := by
  have e := hfa.symm.trans (PySem.W.mg_of X G a50)
  cases e
  have F0 := fun_mk (st := s_is_from) l0 c0 k0
  have b0 := F0.binds (ps := p_is_from) fun _ _ _ _ _ _ us hl => match us, hl with | [_, _, _], _ => rfl
  have F1 := fun_mk (st := s_need_base) l1 c1 k1
  have b1 := F1.binds (ps := p_need_base) fun _ _ _ _ _ _ us hl => match us, hl with | [_], _ => rfl
  have F2 := fun_mk (st := s_need_number) l2 c2 k2
  have b2 := F2.binds (ps := p_need_number) fun _ _ _ _ _ _ us hl => match us, hl with | [_], _ => rfl
  have F3 := fun_mk (st := s_need_divisor) l3 c3 k3
  have b3 := F3.binds (ps := p_need_divisor) fun _ _ _ _ _ _ us hl => match us, hl with | [_, _], _ => rfl
  have F4 := fun_mk (st := s_common) l4 c4 k4
  have b4 := F4.binds (ps := p_common) fun _ _ _ _ _ _ us hl => match us, hl with | [_, _], _ => rfl
  have F5 := fun_mk (st := s_power) l5 c5 k5
  have b5 := F5.binds (ps := p_power) fun _ _ _ _ _ _ us hl => match us, hl with | [_, _], _ => rfl
  have F6 := fun_mk (st := s_Trick_init) l6 c6 k6
  have b6 := F6.binds (ps := p_Trick_init) fun _ _ _ _ _ _ us hl => match us, hl with | [_, _, _, _], _ => rfl
  have F7 := fun_mk (st := s_Trick_base) l7 c7 k7
  have b7 := F7.binds (ps := p_Trick_base) fun _ _ _ _ _ _ us hl => match us, hl with | [_], _ => rfl
  have F8 := fun_mk (st := s_Trick_take) l8 c8 k8
  have b8 := F8.binds (ps := p_Trick_take) fun _ _ _ _ _ _ us hl => match us, hl with | [_], _ => rfl
  have F9 := fun_mk (st := s_Trick_times) l9 c9 k9
  have b9 := F9.binds (ps := p_Trick_times) fun _ _ _ _ _ _ us hl => match us, hl with | [_], _ => rfl
  have F10 := fun_mk (st := s_need_trick) l10 c10 k10
  have b10 := F10.binds (ps := p_need_trick) fun _ _ _ _ _ _ us hl => match us, hl with | [_], _ => rfl
  have F11 := fun_mk (st := s_behind) l11 c11 k11
  have b11 := F11.binds (ps := p_behind) fun _ _ _ _ _ _ us hl => match us, hl with | [_, _], _ => rfl
  have F12 := fun_mk (st := s_trail) l12 c12 k12
  have b12 := F12.binds (ps := p_trail) fun _ _ _ _ _ _ us hl => match us, hl with | [_, _, _], _ => rfl
  have F13 := fun_mk (st := s_ahead) l13 c13 k13
  have b13 := F13.binds (ps := p_ahead) fun _ _ _ _ _ _ us hl => match us, hl with | [_, _], _ => rfl
  have F14 := fun_mk (st := s_wide_of_ends) l14 c14 k14
  have b14 := F14.binds (ps := p_wide_of_ends) fun _ _ _ _ _ _ us hl => match us, hl with | [_], _ => rfl
  have F15 := fun_mk (st := s_bound_by) l15 c15 k15
  have b15 := F15.binds (ps := p_bound_by) fun _ _ _ _ _ _ us hl => match us, hl with | [_], _ => rfl
  have F16 := fun_mk (st := s_ring_from) l16 c16 k16
  have b16 := F16.binds (ps := p_ring_from) fun _ _ _ _ _ _ us hl => match us, hl with | [_, _], _ => rfl
  have F17 := fun_mk (st := s_rings) l17 c17 k17
  have b17 := F17.binds (ps := p_rings) fun _ _ _ _ _ _ us hl => match us, hl with | [_], _ => rfl
  have F18 := fun_mk (st := s_first_fail_judging) l18 c18 k18
  have b18 := F18.binds (ps := p_first_fail_judging) fun _ _ _ _ _ _ us hl => match us, hl with | [_, _], _ => rfl
  have F19 := fun_mk (st := s_word_of) l19 c19 k19
  have b19 := F19.binds (ps := p_word_of) fun _ _ _ _ _ _ us hl => match us, hl with | [_, _], _ => rfl
  have F20 := fun_mk (st := s_multipliers) l20 c20 k20
  have b20 := F20.binds (ps := p_multipliers) fun _ _ _ _ _ _ us hl => match us, hl with | [_, _, _], _ => rfl
  have F21 := fun_mk (st := s_divisors) l21 c21 k21
  have b21 := F21.binds (ps := p_divisors) fun _ _ _ _ _ _ us hl => match us, hl with | [_, _], _ => rfl
  have F22 := fun_mk (st := s_need_tricks) l22 c22 k22
  have b22 := F22.binds (ps := p_need_tricks) fun _ _ _ _ _ _ us hl => match us, hl with | [_], _ => rfl
  have F23 := fun_mk (st := s_behind_all) l23 c23 k23
  have b23 := F23.binds (ps := p_behind_all) fun _ _ _ _ _ _ us hl => match us, hl with | [_, _], _ => rfl
  have F24 := fun_mk (st := s_chained) l24 c24 k24
  have b24 := F24.binds (ps := p_chained) fun _ _ _ _ _ _ us hl => match us, hl with | [_, _], _ => rfl
  have F25 := fun_mk (st := s_wide_of_chains) l25 c25 k25
  have b25 := F25.binds (ps := p_wide_of_chains) fun _ _ _ _ _ _ us hl => match us, hl with | [_], _ => rfl
  have F26 := fun_mk (st := s_need_chain) l26 c26 k26
  have b26 := F26.binds (ps := p_need_chain) fun _ _ _ _ _ _ us hl => match us, hl with | [_, _], _ => rfl
  have F27 := fun_mk (st := s_first_fail_chains) l27 c27 k27
  have b27 := F27.binds (ps := p_first_fail_chains) fun _ _ _ _ _ _ us hl => match us, hl with | [_, _], _ => rfl
  have F28 := fun_mk (st := s_first_unlike) l28 c28 k28
  have b28 := F28.binds (ps := p_first_unlike) fun _ _ _ _ _ _ us hl => match us, hl with | [_, _], _ => rfl
  have F29 := fun_mk (st := s_chain_tells) l29 c29 k29
  have b29 := F29.binds (ps := p_chain_tells) fun _ _ _ _ _ _ us hl => match us, hl with | [_, _], _ => rfl
  have F30 := fun_mk (st := s_need_length) l30 c30 k30
  have b30 := F30.binds (ps := p_need_length) fun _ _ _ _ _ _ us hl => match us, hl with | [_], _ => rfl
  have F31 := fun_mk (st := s_slip_by) l31 c31 k31
  have b31 := F31.binds (ps := p_slip_by) fun _ _ _ _ _ _ us hl => match us, hl with | [_, _, _, _], _ => rfl
  have F32 := fun_mk (st := s_good_divisors) l32 c32 k32
  have b32 := F32.binds (ps := p_good_divisors) fun _ _ _ _ _ _ us hl => match us, hl with | [_, _, _], _ => rfl
  have F33 := fun_mk (st := s_Reckoner_init) l33 c33 k33
  have b33 := F33.binds (ps := p_Reckoner_init) fun _ _ _ _ _ _ us hl => match us, hl with | [_, _], _ => rfl
  have F34 := fun_mk (st := s_Reckoner_now) l34 c34 k34
  have b34 := F34.binds (ps := p_Reckoner_now) fun _ _ _ _ _ _ us hl => match us, hl with | [_], _ => rfl
  have F35 := fun_mk (st := s_Reckoner_step) l35 c35 k35
  have b35 := F35.binds (ps := p_Reckoner_step) fun _ _ _ _ _ _ us hl => match us, hl with | [_, _], _ => rfl
  have F36 := fun_mk (st := s_Reckoner_undo) l36 c36 k36
  have b36 := F36.binds (ps := p_Reckoner_undo) fun _ _ _ _ _ _ us hl => match us, hl with | [_], _ => rfl
  have F37 := fun_mk (st := s_Reckoner_copy) l37 c37 k37
  have b37 := F37.binds (ps := p_Reckoner_copy) fun _ _ _ _ _ _ us hl => match us, hl with | [_], _ => rfl
  have F38 := fun_mk (st := s_Reckoner_len) l38 c38 k38
  have b38 := F38.binds (ps := p_Reckoner_len) fun _ _ _ _ _ _ us hl => match us, hl with | [_], _ => rfl
  have F39 := fun_mk (st := s_need_pairs) l39 c39 k39
  have b39 := F39.binds (ps := p_need_pairs) fun _ _ _ _ _ _ us hl => match us, hl with | [_], _ => rfl
  have F40 := fun_mk (st := s_factors_of) l40 c40 k40
  have b40 := F40.binds (ps := p_factors_of) fun _ _ _ _ _ _ us hl => match us, hl with | [_, _], _ => rfl
  have F41 := fun_mk (st := s_fitting) l41 c41 k41
  have b41 := F41.binds (ps := p_fitting) fun _ _ _ _ _ _ us hl => match us, hl with | [_], _ => rfl
  have F42 := fun_mk (st := s_law_taken) l42 c42 k42
  have b42 := F42.binds (ps := p_law_taken) fun _ _ _ _ _ _ us hl => match us, hl with | [_, _], _ => rfl
  have F43 := fun_mk (st := s_law_power) l43 c43 k43
  have b43 := F43.binds (ps := p_law_power) fun _ _ _ _ _ _ us hl => match us, hl with | [_, _], _ => rfl
  have F44 := fun_mk (st := s_law_trick) l44 c44 k44
  have b44 := F44.binds (ps := p_law_trick) fun _ _ _ _ _ _ us hl => match us, hl with | [_, _], _ => rfl
  have F45 := fun_mk (st := s_law_behind) l45 c45 k45
  have b45 := F45.binds (ps := p_law_behind) fun _ _ _ _ _ _ us hl => match us, hl with | [_, _], _ => rfl
  have F46 := fun_mk (st := s_law_number) l46 c46 k46
  have b46 := F46.binds (ps := p_law_number) fun _ _ _ _ _ _ us hl => match us, hl with | [_], _ => rfl
  have F47 := fun_mk (st := s_law_chain) l47 c47 k47
  have b47 := F47.binds (ps := p_law_chain) fun _ _ _ _ _ _ us hl => match us, hl with | [_], _ => rfl
  have F48 := fun_mk (st := s_law_tricks) l48 c48 k48
  have b48 := F48.binds (ps := p_law_tricks) fun _ _ _ _ _ _ us hl => match us, hl with | [_], _ => rfl
  have F49 := fun_mk (st := s_law_told) l49 c49 k49
  have b49 := F49.binds (ps := p_law_told) fun _ _ _ _ _ _ us hl => match us, hl with | [_, _, _, _], _ => rfl
  have F50 := fun_mk (st := s_law) l50 c50 k50
  have b50 := F50.binds (ps := p_law) fun _ _ _ _ _ _ us hl => match us, hl with | [_], _ => rfl
  have T : Txt K mg ⟨f0, _, f1, _, f2, _, f3, _, f4, _, f5, _, f6, _, f7, _, f8, _, f9, _, f10, _, f11, _, f12, _, f13, _, f14, _, f15, _, f16, _, f17, _, f18, _, f19, _, f20, _, f21, _, f22, _, f23, _, f24, _, f25, _, f26, _, f27, _, f28, _, f29, _, f30, _, f31, _, f32, _, f33, _, f34, _, f35, _, f36, _, f37, _, f38, _, f39, _, f40, _, f41, _, f42, _, f43, _, f44, _, f45, _, f46, _, f47, _, f48, _, f49, _, fa, _, CTrick, CReckoner, P7, P8, P9, P34⟩ :=
    { F_is_from := F0,
      b_is_from := b0,
      g_is_from := PySem.W.mg_of X G a0,
      F_need_base := F1,
      b_need_base := b1,
      g_need_base := PySem.W.mg_of X G a1,
      F_need_number := F2,
      b_need_number := b2,
      g_need_number := PySem.W.mg_of X G a2,
      F_need_divisor := F3,
      b_need_divisor := b3,
      g_need_divisor := PySem.W.mg_of X G a3,
      F_common := F4,
      b_common := b4,
      g_common := PySem.W.mg_of X G a4,
      F_power := F5,
      b_power := b5,
      g_power := PySem.W.mg_of X G a5,
      F_Trick_init := F6,
      b_Trick_init := b6,
      F_Trick_base := F7,
      b_Trick_base := b7,
      pr_Trick_base := ⟨a7, pg7, pt7, ⟨_, pr7⟩⟩,
      F_Trick_take := F8,
      b_Trick_take := b8,
      pr_Trick_take := ⟨a8, pg8, pt8, ⟨_, pr8⟩⟩,
      F_Trick_times := F9,
      b_Trick_times := b9,
      pr_Trick_times := ⟨a9, pg9, pt9, ⟨_, pr9⟩⟩,
      F_need_trick := F10,
      b_need_trick := b10,
      g_need_trick := PySem.W.mg_of X G a10,
      F_behind := F11,
      b_behind := b11,
      g_behind := PySem.W.mg_of X G a11,
      F_trail := F12,
      b_trail := b12,
      g_trail := PySem.W.mg_of X G a12,
      F_ahead := F13,
      b_ahead := b13,
      g_ahead := PySem.W.mg_of X G a13,
      F_wide_of_ends := F14,
      b_wide_of_ends := b14,
      g_wide_of_ends := PySem.W.mg_of X G a14,
      F_bound_by := F15,
      b_bound_by := b15,
      g_bound_by := PySem.W.mg_of X G a15,
      F_ring_from := F16,
      b_ring_from := b16,
      g_ring_from := PySem.W.mg_of X G a16,
      F_rings := F17,
      b_rings := b17,
      g_rings := PySem.W.mg_of X G a17,
      F_first_fail_judging := F18,
      b_first_fail_judging := b18,
      g_first_fail_judging := PySem.W.mg_of X G a18,
      F_word_of := F19,
      b_word_of := b19,
      g_word_of := PySem.W.mg_of X G a19,
      F_multipliers := F20,
      b_multipliers := b20,
      g_multipliers := PySem.W.mg_of X G a20,
      F_divisors := F21,
      b_divisors := b21,
      g_divisors := PySem.W.mg_of X G a21,
      F_need_tricks := F22,
      b_need_tricks := b22,
      g_need_tricks := PySem.W.mg_of X G a22,
      F_behind_all := F23,
      b_behind_all := b23,
      g_behind_all := PySem.W.mg_of X G a23,
      F_chained := F24,
      b_chained := b24,
      g_chained := PySem.W.mg_of X G a24,
      F_wide_of_chains := F25,
      b_wide_of_chains := b25,
      g_wide_of_chains := PySem.W.mg_of X G a25,
      F_need_chain := F26,
      b_need_chain := b26,
      g_need_chain := PySem.W.mg_of X G a26,
      F_first_fail_chains := F27,
      b_first_fail_chains := b27,
      g_first_fail_chains := PySem.W.mg_of X G a27,
      F_first_unlike := F28,
      b_first_unlike := b28,
      g_first_unlike := PySem.W.mg_of X G a28,
      F_chain_tells := F29,
      b_chain_tells := b29,
      g_chain_tells := PySem.W.mg_of X G a29,
      F_need_length := F30,
      b_need_length := b30,
      g_need_length := PySem.W.mg_of X G a30,
      F_slip_by := F31,
      b_slip_by := b31,
      g_slip_by := PySem.W.mg_of X G a31,
      F_good_divisors := F32,
      b_good_divisors := b32,
      g_good_divisors := PySem.W.mg_of X G a32,
      F_Reckoner_init := F33,
      b_Reckoner_init := b33,
      F_Reckoner_now := F34,
      b_Reckoner_now := b34,
      pr_Reckoner_now := ⟨a34, pg34, pt34, ⟨_, pr34⟩⟩,
      F_Reckoner_step := F35,
      b_Reckoner_step := b35,
      m_Reckoner_step := ⟨a35, i35, k35⟩,
      F_Reckoner_undo := F36,
      b_Reckoner_undo := b36,
      m_Reckoner_undo := ⟨a36, i36, k36⟩,
      F_Reckoner_copy := F37,
      b_Reckoner_copy := b37,
      m_Reckoner_copy := ⟨a37, i37, k37⟩,
      F_Reckoner_len := F38,
      b_Reckoner_len := b38,
      m_Reckoner_len := ⟨a38, i38, k38⟩,
      F_need_pairs := F39,
      b_need_pairs := b39,
      g_need_pairs := PySem.W.mg_of X G a39,
      F_factors_of := F40,
      b_factors_of := b40,
      g_factors_of := PySem.W.mg_of X G a40,
      F_fitting := F41,
      b_fitting := b41,
      g_fitting := PySem.W.mg_of X G a41,
      F_law_taken := F42,
      b_law_taken := b42,
      g_law_taken := PySem.W.mg_of X G a42,
      F_law_power := F43,
      b_law_power := b43,
      g_law_power := PySem.W.mg_of X G a43,
      F_law_trick := F44,
      b_law_trick := b44,
      g_law_trick := PySem.W.mg_of X G a44,
      F_law_behind := F45,
      b_law_behind := b45,
      g_law_behind := PySem.W.mg_of X G a45,
      F_law_number := F46,
      b_law_number := b46,
      g_law_number := PySem.W.mg_of X G a46,
      F_law_chain := F47,
      b_law_chain := b47,
      g_law_chain := PySem.W.mg_of X G a47,
      F_law_tricks := F48,
      b_law_tricks := b48,
      g_law_tricks := PySem.W.mg_of X G a48,
      F_law_told := F49,
      b_law_told := b49,
      g_law_told := PySem.W.mg_of X G a49,
      F_law := F50,
      b_law := b50,
      g_law := PySem.W.mg_of X G a50,
      g_Trick := PySem.W.mg_of X G aCTrick,
      cl_Trick := ⟨pgTrick, hdTrick, poTrick, saTrick⟩,
      is_Trick := ⟨⟨pgTrick, hdTrick, poTrick, saTrick⟩, icTrick, snA, tkA, mcTrick, if_pos (beq_self_eq_true _)⟩,
      M_Trick := ⟨mkTrick, a6, i6, kcTrick⟩,
      nf_Trick_basis := nfTrick_basis,
      nf_Trick_many := nfTrick_many,
      nf_Trick_factor := nfTrick_factor,
      nf_Trick_block := nfTrick_block,
      g_Reckoner := PySem.W.mg_of X G aCReckoner,
      cl_Reckoner := ⟨pgReckoner, hdReckoner, poReckoner, saReckoner⟩,
      is_Reckoner := ⟨⟨pgReckoner, hdReckoner, poReckoner, saReckoner⟩, icReckoner, snA, tkA, mcReckoner, if_pos (beq_self_eq_true _)⟩,
      M_Reckoner := ⟨mkReckoner, a33, i33, kcReckoner⟩,
      nf_Reckoner_stood := nfReckoner_stood,
      nf_Reckoner_deeds := nfReckoner_deeds,
      v_LEAST_BASE := ⟨_, PySem.W.mg_of X G v_LEAST_BASE⟩,
      v_MOST_BASE := ⟨_, PySem.W.mg_of X G v_MOST_BASE⟩,
      v_MOST_NUMBER := ⟨_, PySem.W.mg_of X G v_MOST_NUMBER⟩,
      v_MOST_DIVISOR := ⟨_, PySem.W.mg_of X G v_MOST_DIVISOR⟩,
      v_MOST_TAKE := ⟨_, PySem.W.mg_of X G v_MOST_TAKE⟩,
      v_MOST_TIMES := ⟨_, PySem.W.mg_of X G v_MOST_TIMES⟩,
      v_MOST_ROUNDS := ⟨_, PySem.W.mg_of X G v_MOST_ROUNDS⟩,
      v_MOST_TRICKS := ⟨_, PySem.W.mg_of X G v_MOST_TRICKS⟩,
      v_MOST_WIDE := ⟨_, PySem.W.mg_of X G v_MOST_WIDE⟩,
      v_MOST_CHAIN_DIVISOR := ⟨_, PySem.W.mg_of X G v_MOST_CHAIN_DIVISOR⟩,
      v_MOST_LENGTH := ⟨_, PySem.W.mg_of X G v_MOST_LENGTH⟩,
      v_MOST_PAIRS := ⟨_, PySem.W.mg_of X G v_MOST_PAIRS⟩,
      n_isinstance := PySem.W.mg_none_of X G z_isinstance,
      n_int := PySem.W.mg_none_of X G z_int,
      n_bool := PySem.W.mg_none_of X G z_bool,
      n_abs := PySem.W.mg_none_of X G z_abs,
      n_range := PySem.W.mg_none_of X G z_range,
      n_sorted := PySem.W.mg_none_of X G z_sorted,
      n_tuple := PySem.W.mg_none_of X G z_tuple,
      n_min := PySem.W.mg_none_of X G z_min,
      n_enumerate := PySem.W.mg_none_of X G z_enumerate,
      n_list := PySem.W.mg_none_of X G z_list,
      n_len := PySem.W.mg_none_of X G z_len,
      n_all := PySem.W.mg_none_of X G z_all }
  exact ⟨_, fun s v => .of_eq rfl, fun base _ _ => ok_law T⟩
theorem walk {l : PySem.W.OpenLaw} {q : Program} {loose : List Str} {XP : (Str → Option Value) → Heap → Prop} {YP : World → Heap → Prop} {d : DefRec} {K : Params → Frag} (hn : l.most = some 63) (hdf : d.params.defaults = [])
    (hY : ∀ (w : World) (h : Heap), YP w h → (K w.params).In h)
    (F : ∀ (w : World) (mg : Str → Option Value) (fa : Addr) (h : Heap), (K w.params).In h → h.Ns mainGlobals mg → mg d.name = some (.ref fa) →
      ∃ fd : FuncData, (∀ (s : Shared) (u : Value), BindsTo s fd ⟨[u], []⟩ [("_law_script", u)]) ∧ ∀ base : Heap, (K w.params).In base → base.Ns mainGlobals mg → FnOk l.prog w (K w.params) mg base CX0 6 fa fd ["_law_script"] (sp_law (K w.params))) :
    PySem.W.WalkO q loose XP YP l.row.toRowW d [] (fun f vs => PySem.call f vs) :=
  L2.walk_of (n := 63) (k := 6) (x := "_law_script") (CX := fun _ => CX0) (sp := fun w => sp_law (K w.params)) hn (by decide) hdf ⟨rfl, by decide, by decide⟩ hY F (fun _ _ a ns hl _ hS => ⟨a, ns, rfl, hS, hl, fun _ => rfl⟩) fun _ _ _ _ _ z => z
end Toy

open PySem PySem.W PyProof.Rows
set_option maxRecDepth 100000 in
set_option maxHeartbeats 0 in
theorem PySem.Challenge.cw_resttricks_k41_asked_again_holds : PySem.Challenge.rw_resttricks_k41_asked_again.Holds := by
  w_on; o_law; k_head; (case hw => w_witness2)
  k_fill
  refine Toy.walk (l := PySem.Challenge.rw_resttricks_k41_asked_again) rfl rfl (fun w h Y => PySem.W.kIn_of Y) ?F
  case F =>
    intro w mg fa h KX G hmg
    refine' Toy.all_mk KX G hmg ?a0 ?l0 ?c0 ?k0 ?a1 ?l1 ?c1 ?k1 ?a2 ?l2 ?c2 ?k2 ?a3 ?l3 ?c3 ?k3 ?a4 ?l4 ?c4 ?k4 ?a5 ?l5 ?c5 ?k5 ?a6 ?i6 ?l6 ?c6 ?k6 ?a7 ?pg7 ?pt7 ?pr7 ?l7 ?c7 ?k7 ?a8 ?pg8 ?pt8 ?pr8 ?l8 ?c8 ?k8 ?a9 ?pg9 ?pt9 ?pr9 ?l9 ?c9 ?k9 ?a10 ?l10 ?c10 ?k10 ?a11 ?l11 ?c11 ?k11 ?a12 ?l12 ?c12 ?k12 ?a13 ?l13 ?c13 ?k13 ?a14 ?l14 ?c14 ?k14 ?a15 ?l15 ?c15 ?k15 ?a16 ?l16 ?c16 ?k16 ?a17 ?l17 ?c17 ?k17 ?a18 ?l18 ?c18 ?k18 ?a19 ?l19 ?c19 ?k19 ?a20 ?l20 ?c20 ?k20 ?a21 ?l21 ?c21 ?k21 ?a22 ?l22 ?c22 ?k22 ?a23 ?l23 ?c23 ?k23 ?a24 ?l24 ?c24 ?k24 ?a25 ?l25 ?c25 ?k25 ?a26 ?l26 ?c26 ?k26 ?a27 ?l27 ?c27 ?k27 ?a28 ?l28 ?c28 ?k28 ?a29 ?l29 ?c29 ?k29 ?a30 ?l30 ?c30 ?k30 ?a31 ?l31 ?c31 ?k31 ?a32 ?l32 ?c32 ?k32 ?a33 ?i33 ?l33 ?c33 ?k33 ?a34 ?pg34 ?pt34 ?pr34 ?l34 ?c34 ?k34 ?a35 ?i35 ?l35 ?c35 ?k35 ?a36 ?i36 ?l36 ?c36 ?k36 ?a37 ?i37 ?l37 ?c37 ?k37 ?a38 ?i38 ?l38 ?c38 ?k38 ?a39 ?l39 ?c39 ?k39 ?a40 ?l40 ?c40 ?k40 ?a41 ?l41 ?c41 ?k41 ?a42 ?l42 ?c42 ?k42 ?a43 ?l43 ?c43 ?k43 ?a44 ?l44 ?c44 ?k44 ?a45 ?l45 ?c45 ?k45 ?a46 ?l46 ?c46 ?k46 ?a47 ?l47 ?c47 ?k47 ?a48 ?l48 ?c48 ?k48 ?a49 ?l49 ?c49 ?k49 ?a50 ?l50 ?c50 ?k50 ?aCTrick ?pgTrick ?hdTrick ?poTrick ?saTrick ?mkTrick ?kcTrick ?icTrick ?mcTrick ?nfTrick_basis ?nfTrick_many ?nfTrick_factor ?nfTrick_block ?aCReckoner ?pgReckoner ?hdReckoner ?poReckoner ?saReckoner ?mkReckoner ?kcReckoner ?icReckoner ?mcReckoner ?nfReckoner_stood ?nfReckoner_deeds ?snA ?tkA ?v_LEAST_BASE ?v_MOST_BASE ?v_MOST_NUMBER ?v_MOST_DIVISOR ?v_MOST_TAKE ?v_MOST_TIMES ?v_MOST_ROUNDS ?v_MOST_TRICKS ?v_MOST_WIDE ?v_MOST_CHAIN_DIVISOR ?v_MOST_LENGTH ?v_MOST_PAIRS ?z_isinstance ?z_int ?z_bool ?z_abs ?z_range ?z_sorted ?z_tuple ?z_min ?z_enumerate ?z_list ?z_len ?z_all
    (case aCTrick => k_is)
    (case aCReckoner => k_is)
    (case a0 => k_is)
    (case l0 => k_is)
    (case c0 => k_is)
    (case k0 => k_is)
    (case a1 => k_is)
    (case l1 => k_is)
    (case c1 => k_is)
    (case k1 => k_is)
    (case a2 => k_is)
    (case l2 => k_is)
    (case c2 => k_is)
    (case k2 => k_is)
    (case a3 => k_is)
    (case l3 => k_is)
    (case c3 => k_is)
    (case k3 => k_is)
    (case a4 => k_is)
    (case l4 => k_is)
    (case c4 => k_is)
    (case k4 => k_is)
    (case a5 => k_is)
    (case l5 => k_is)
    (case c5 => k_is)
    (case k5 => k_is)
    (case a6 => k_is)
    (case i6 => k_is)
    (case l6 => k_is)
    (case c6 => k_is)
    (case k6 => k_is)
    (case a7 => k_is)
    (case pg7 => k_is)
    (case pt7 => k_is)
    (case pr7 => k_is)
    (case l7 => k_is)
    (case c7 => k_is)
    (case k7 => k_is)
    (case a8 => k_is)
    (case pg8 => k_is)
    (case pt8 => k_is)
    (case pr8 => k_is)
    (case l8 => k_is)
    (case c8 => k_is)
    (case k8 => k_is)
    (case a9 => k_is)
    (case pg9 => k_is)
    (case pt9 => k_is)
    (case pr9 => k_is)
    (case l9 => k_is)
    (case c9 => k_is)
    (case k9 => k_is)
    (case a10 => k_is)
    (case l10 => k_is)
    (case c10 => k_is)
    (case k10 => k_is)
    (case a11 => k_is)
    (case l11 => k_is)
    (case c11 => k_is)
    (case k11 => k_is)
    (case a12 => k_is)
    (case l12 => k_is)
    (case c12 => k_is)
    (case k12 => k_is)
    (case a13 => k_is)
    (case l13 => k_is)
    (case c13 => k_is)
    (case k13 => k_is)
    (case a14 => k_is)
    (case l14 => k_is)
    (case c14 => k_is)
    (case k14 => k_is)
    (case a15 => k_is)
    (case l15 => k_is)
    (case c15 => k_is)
    (case k15 => k_is)
    (case a16 => k_is)
    (case l16 => k_is)
    (case c16 => k_is)
    (case k16 => k_is)
    (case a17 => k_is)
    (case l17 => k_is)
    (case c17 => k_is)
    (case k17 => k_is)
    (case a18 => k_is)
    (case l18 => k_is)
    (case c18 => k_is)
    (case k18 => k_is)
    (case a19 => k_is)
    (case l19 => k_is)
    (case c19 => k_is)
    (case k19 => k_is)
    (case a20 => k_is)
    (case l20 => k_is)
    (case c20 => k_is)
    (case k20 => k_is)
    (case a21 => k_is)
    (case l21 => k_is)
    (case c21 => k_is)
    (case k21 => k_is)
    (case a22 => k_is)
    (case l22 => k_is)
    (case c22 => k_is)
    (case k22 => k_is)
    (case a23 => k_is)
    (case l23 => k_is)
    (case c23 => k_is)
    (case k23 => k_is)
    (case a24 => k_is)
    (case l24 => k_is)
    (case c24 => k_is)
    (case k24 => k_is)
    (case a25 => k_is)
    (case l25 => k_is)
    (case c25 => k_is)
    (case k25 => k_is)
    (case a26 => k_is)
    (case l26 => k_is)
    (case c26 => k_is)
    (case k26 => k_is)
    (case a27 => k_is)
    (case l27 => k_is)
    (case c27 => k_is)
    (case k27 => k_is)
    (case a28 => k_is)
    (case l28 => k_is)
    (case c28 => k_is)
    (case k28 => k_is)
    (case a29 => k_is)
    (case l29 => k_is)
    (case c29 => k_is)
    (case k29 => k_is)
    (case a30 => k_is)
    (case l30 => k_is)
    (case c30 => k_is)
    (case k30 => k_is)
    (case a31 => k_is)
    (case l31 => k_is)
    (case c31 => k_is)
    (case k31 => k_is)
    (case a32 => k_is)
    (case l32 => k_is)
    (case c32 => k_is)
    (case k32 => k_is)
    (case a33 => k_is)
    (case i33 => k_is)
    (case l33 => k_is)
    (case c33 => k_is)
    (case k33 => k_is)
    (case a34 => k_is)
    (case pg34 => k_is)
    (case pt34 => k_is)
    (case pr34 => k_is)
    (case l34 => k_is)
    (case c34 => k_is)
    (case k34 => k_is)
    (case a35 => k_is)
    (case i35 => k_is)
    (case l35 => k_is)
    (case c35 => k_is)
    (case k35 => k_is)
    (case a36 => k_is)
    (case i36 => k_is)
    (case l36 => k_is)
    (case c36 => k_is)
    (case k36 => k_is)
    (case a37 => k_is)
    (case i37 => k_is)
    (case l37 => k_is)
    (case c37 => k_is)
    (case k37 => k_is)
    (case a38 => k_is)
    (case i38 => k_is)
    (case l38 => k_is)
    (case c38 => k_is)
    (case k38 => k_is)
    (case a39 => k_is)
    (case l39 => k_is)
    (case c39 => k_is)
    (case k39 => k_is)
    (case a40 => k_is)
    (case l40 => k_is)
    (case c40 => k_is)
    (case k40 => k_is)
    (case a41 => k_is)
    (case l41 => k_is)
    (case c41 => k_is)
    (case k41 => k_is)
    (case a42 => k_is)
    (case l42 => k_is)
    (case c42 => k_is)
    (case k42 => k_is)
    (case a43 => k_is)
    (case l43 => k_is)
    (case c43 => k_is)
    (case k43 => k_is)
    (case a44 => k_is)
    (case l44 => k_is)
    (case c44 => k_is)
    (case k44 => k_is)
    (case a45 => k_is)
    (case l45 => k_is)
    (case c45 => k_is)
    (case k45 => k_is)
    (case a46 => k_is)
    (case l46 => k_is)
    (case c46 => k_is)
    (case k46 => k_is)
    (case a47 => k_is)
    (case l47 => k_is)
    (case c47 => k_is)
    (case k47 => k_is)
    (case a48 => k_is)
    (case l48 => k_is)
    (case c48 => k_is)
    (case k48 => k_is)
    (case a49 => k_is)
    (case l49 => k_is)
    (case c49 => k_is)
    (case k49 => k_is)
    (case a50 => k_is)
    (case l50 => k_is)
    (case c50 => k_is)
    (case k50 => k_is)
    (case pgTrick => k_is)
    (case hdTrick => k_is)
    (case poTrick => k_is)
    (case saTrick => k_is)
    (case mkTrick => k_is)
    (case kcTrick => k_is)
    (case icTrick => k_is)
    (case mcTrick => k_is)
    (case nfTrick_basis => k_is)
    (case nfTrick_many => k_is)
    (case nfTrick_factor => k_is)
    (case nfTrick_block => k_is)
    (case pgReckoner => k_is)
    (case hdReckoner => k_is)
    (case poReckoner => k_is)
    (case saReckoner => k_is)
    (case mkReckoner => k_is)
    (case kcReckoner => k_is)
    (case icReckoner => k_is)
    (case mcReckoner => k_is)
    (case nfReckoner_stood => k_is)
    (case nfReckoner_deeds => k_is)
    (case snA => k_is)
    (case tkA => k_is)
    (case v_LEAST_BASE => k_is)
    (case v_MOST_BASE => k_is)
    (case v_MOST_NUMBER => k_is)
    (case v_MOST_DIVISOR => k_is)
    (case v_MOST_TAKE => k_is)
    (case v_MOST_TIMES => k_is)
    (case v_MOST_ROUNDS => k_is)
    (case v_MOST_TRICKS => k_is)
    (case v_MOST_WIDE => k_is)
    (case v_MOST_CHAIN_DIVISOR => k_is)
    (case v_MOST_LENGTH => k_is)
    (case v_MOST_PAIRS => k_is)
    (case z_isinstance => k_is)
    (case z_int => k_is)
    (case z_bool => k_is)
    (case z_abs => k_is)
    (case z_range => k_is)
    (case z_sorted => k_is)
    (case z_tuple => k_is)
    (case z_min => k_is)
    (case z_enumerate => k_is)
    (case z_list => k_is)
    (case z_len => k_is)
    (case z_all => k_is)
