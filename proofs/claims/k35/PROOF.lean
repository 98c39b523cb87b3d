import PyProof.Rows.All
import Wide.All
import OpenK.AllK
import Wide.FinOn
import HandS.ForMost
import HandS.IsInst
import HandS.Wide
import HandS.Steps
import HandS.Style
import HandS.TupAny
import HandS.Codes
import HandS.SortInts
import HandS.TryOnly
import HandS.Walk
import KE.GoesEnum
import HandS.Conv
import HandS.TupSets
import KE.SortData
import HandS.Deep
import PySem.Challenge.RW_resttricks_k35_fitting_great
set_option Elab.async false
set_option linter.all false
set_option maxRecDepth 100000
set_option maxHeartbeats 4000000
/-! ## the layer: what is owned, step by step -/
namespace R
open PySem PySem.Spec PyProof.Rows L2
open PySem.W (Frag)

def del1 (H : Hp) (a : Addr) : Hp := fun b => if b = a then none else H b
/-- B: what stays; Lw: what this frame may change, as it stands -/
structure Own (B : Hp) (Lw : List (Addr × HO)) (H : Hp) : Prop where
  st : ∀ a o, B a = some o → H a = some o
  ow : ∀ p ∈ Lw, H p.1 = some p.2
  no : ∀ p ∈ Lw, B p.1 = none
  nd : (Lw.map (·.1)).Nodup
theorem Own.refl (H : Hp) : Own H [] H := ⟨fun _ _ h => h, fun _ h => by simp at h, fun _ h => by simp at h, by simp⟩
theorem Own.refl1 {H : Hp} {a : Addr} {o : HO} (h : H a = some o) : Own (del1 H a) [(a, o)] H := by
  refine ⟨fun b u e => ?_, fun p hp => ?_, fun p hp => ?_, by simp⟩
  · unfold del1 at e
    split at e
    · cases e
    · exact e
  · have e : p = (a, o) := by simpa using hp
    rw [e]; exact h
  · have e : p = (a, o) := by simpa using hp
    rw [e]; unfold del1; rw [if_pos rfl]
section
variable {B H H' : Hp} {Lw : List (Addr × HO)} {a b p : Addr} {o u : HO} {K : Frag} {xs : List V}
theorem Own.get (O : Own B Lw H) (i : Nat) (h : Lw[i]? = some (a, o)) : H a = some o := O.ow (a, o) (List.mem_of_getElem? h)
theorem Own.gone (O : Own B Lw H) (i : Nat) (h : Lw[i]? = some (a, o)) : B a = none := O.no (a, o) (List.mem_of_getElem? h)
theorem Own.seq (O : Own B Lw H) (h : SqL K B a xs) : SqL K H a xs := by
  rcases h with (h | ⟨q, h⟩) | h
  · exact .inl (.inl (O.st _ _ h))
  · exact .inl (.inr ⟨q, O.st _ _ h⟩)
  · exact .inr h
theorem Own.tup (O : Own B Lw H) (h : SqT K B a xs) : SqT K H a xs := by
  rcases h with (h | ⟨q, h⟩) | h
  · exact .inl (.inl (O.st _ _ h))
  · exact .inl (.inr ⟨q, O.st _ _ h⟩)
  · exact .inr h
theorem Own.sq (O : Own B Lw H) (i : Nat) (h : Lw[i]? = some (a, .lst xs)) : SqL K H a xs := SqL.of (O.get i h)
theorem Own.tq (O : Own B Lw H) (i : Nat) (h : Lw[i]? = some (a, .tup xs)) : SqT K H a xs := SqT.of (O.get i h)
theorem Own.free (O : Own B Lw H) (h : H p = none) : B p = none := by
  cases q : B p with
  | none => rfl
  | some v => rw [O.st _ _ q] at h; cases h
theorem Own.out (O : Own B Lw H) (h : H p = none) : ∀ q ∈ Lw, q.1 ≠ p := fun q hq z => by
  have e := O.ow q hq
  rw [z, h] at e; cases e
/-- a new object -/
theorem Own.new (O : Own B Lw H) (h : H p = none) : Own B ((p, o) :: Lw) (upd H p o) := by
  refine ⟨fun c v e => ?_, fun q hq => ?_, fun q hq => ?_, ?_⟩
  · rw [upd_ne (ne_of_none (O.st _ _ e) h)]; exact O.st _ _ e
  · rcases List.mem_cons.mp hq with rfl | hq
    · exact upd_same
    · show upd H p o q.1 = _
      rw [upd_ne (O.out h q hq)]; exact O.ow q hq
  · rcases List.mem_cons.mp hq with rfl | hq
    · exact O.free h
    · exact O.no q hq
  · rw [List.map_cons, List.nodup_cons]
    refine ⟨fun z => ?_, O.nd⟩
    obtain ⟨q, hq, e⟩ := List.mem_map.mp z
    exact O.out h q hq e
theorem set_map1 : ∀ {Lw : List (Addr × HO)} {i : Nat} {a : Addr} {o o' : HO}, Lw[i]? = some (a, o) → (Lw.set i (a, o')).map (·.1) = Lw.map (·.1)
  | [], _, _, _, _, h => by simp at h
  | x :: r, 0, a, o, o', h => by
    have e : x = (a, o) := by simpa using h
    rw [e]; rfl
  | x :: r, i + 1, a, o, o', h => by
    have ih := set_map1 (Lw := r) (i := i) (o' := o') (by simpa using h)
    show x.1 :: (r.set i (a, o')).map (·.1) = x.1 :: r.map (·.1)
    rw [ih]
theorem mem_set1 : ∀ {Lw : List (Addr × HO)} {i : Nat} {a : Addr} {o o' : HO} {q : Addr × HO}, (Lw.map (·.1)).Nodup → Lw[i]? = some (a, o) → q ∈ Lw.set i (a, o') → q = (a, o') ∨ (q ∈ Lw ∧ q.1 ≠ a)
  | [], _, _, _, _, _, _, h, _ => by simp at h
  | x :: r, 0, a, o, o', q, nd, h, hq => by
    have e : x = (a, o) := by simpa using h
    subst e
    rw [List.map_cons, List.nodup_cons] at nd
    rcases List.mem_cons.mp hq with rfl | hq
    · exact .inl rfl
    · exact .inr ⟨List.mem_cons_of_mem _ hq, fun z => nd.1 (List.mem_map.mpr ⟨q, hq, z⟩)⟩
  | x :: r, i + 1, a, o, o', q, nd, h, hq => by
    rw [List.map_cons, List.nodup_cons] at nd
    have h' : r[i]? = some (a, o) := by simpa using h
    rcases List.mem_cons.mp (show q ∈ x :: r.set i (a, o') from hq) with rfl | hq
    · refine .inr ⟨List.mem_cons_self, fun z => nd.1 (List.mem_map.mpr ⟨(a, o), List.mem_of_getElem? h', z.symm⟩)⟩
    · rcases mem_set1 nd.2 h' hq with z | ⟨z1, z2⟩
      · exact .inl z
      · exact .inr ⟨List.mem_cons_of_mem _ z1, z2⟩
/-- what is owned is changed by someone who keeps all else -/
theorem Own.but (O : Own B Lw H) (i : Nat) (h : Lw[i]? = some (a, o)) (k : ∀ b v, b ≠ a → H b = some v → H' b = some v) (ha : H' a = some u) : Own B (Lw.set i (a, u)) H' := by
  have hB := O.gone i h
  refine ⟨fun c v e => k c v (fun z => ?_) (O.st _ _ e), fun q hq => ?_, fun q hq => ?_, ?_⟩
  · rw [z, hB] at e; cases e
  · rcases mem_set1 O.nd h hq with rfl | ⟨h1, h2⟩
    · exact ha
    · exact k _ _ h2 (O.ow q h1)
  · rcases mem_set1 O.nd h hq with rfl | ⟨h1, h2⟩
    · exact hB
    · exact O.no q h1
  · rw [set_map1 h]; exact O.nd
theorem Own.put (O : Own B Lw H) (i : Nat) (h : Lw[i]? = some (a, o)) : Own B (Lw.set i (a, u)) (upd H a u) :=
  O.but i h (fun b v hb e => by rw [upd_ne hb]; exact e) upd_same
/-- more stands now -/
theorem Own.same (O : Own B Lw H) (s : Same H H') : Own B Lw H' := ⟨fun c v e => s _ _ (O.st _ _ e), fun q hq => s _ _ (O.ow q hq), O.no, O.nd⟩
theorem Own.tail {x : Addr × HO} (O : Own B (x :: Lw) H) : Own B Lw H := ⟨O.st, fun q hq => O.ow q (List.mem_cons_of_mem _ hq), fun q hq => O.no q (List.mem_cons_of_mem _ hq), (List.nodup_cons.mp (by simpa using O.nd)).2⟩
theorem Own.tail2 {x y : Addr × HO} (O : Own B (y :: x :: Lw) H) : Own B (y :: Lw) H := by
  have hn := O.nd
  simp only [List.map_cons, List.nodup_cons, List.mem_cons, not_or] at hn
  refine ⟨O.st, fun q hq => O.ow q ?_, fun q hq => O.no q ?_, ?_⟩
  · rcases List.mem_cons.mp hq with rfl | hq
    · exact List.mem_cons_self
    · exact List.mem_cons_of_mem _ (List.mem_cons_of_mem _ hq)
  · rcases List.mem_cons.mp hq with rfl | hq
    · exact List.mem_cons_self
    · exact List.mem_cons_of_mem _ (List.mem_cons_of_mem _ hq)
  · simp only [List.map_cons, List.nodup_cons]
    exact ⟨hn.1.2, hn.2.2⟩
theorem Own.toSame (O : Own H Lw H') : Same H H' := O.st
/-- at the end: all but a is as it was -/
theorem Own.toBut (O : Own (del1 H a) Lw H') : ∀ b v, b ≠ a → H b = some v → H' b = some v := fun b v hb e => O.st b v (by unfold del1; rw [if_neg hb]; exact e)
theorem del1_seq {o : HO} (h : SqL K H b xs) (ha : H a = some o) (ho : ∀ ys, o ≠ .lst ys ∨ b ≠ a) (hf : ∀ q w, o ≠ .frz q w) (hb : b ≠ a) : SqL K (del1 H a) b xs := by
  rcases h with (h | ⟨q, h⟩) | h
  · exact .inl (.inl (by unfold del1; rw [if_neg hb]; exact h))
  · exact .inl (.inr ⟨q, by unfold del1; rw [if_neg hb]; exact h⟩)
  · exact .inr h
theorem del1_ne {H : Hp} {a b : Addr} (h : b ≠ a) : del1 H a b = H b := by unfold del1; rw [if_neg h]
end
end R
namespace R
open PySem L2
theorem Own.swap {B H : Hp} {Lw : List (Addr × HO)} {x y : Addr × HO} (O : Own B (x :: y :: Lw) H) : Own B (y :: x :: Lw) H := by
  refine ⟨O.st, fun q hq => O.ow q ?_, fun q hq => O.no q ?_, ?_⟩
  · simp only [List.mem_cons] at hq ⊢
    rcases hq with z | z | z
    · exact .inr (.inl z)
    · exact .inl z
    · exact .inr (.inr z)
  · simp only [List.mem_cons] at hq ⊢
    rcases hq with z | z | z
    · exact .inr (.inl z)
    · exact .inl z
    · exact .inr (.inr z)
  · have h := O.nd
    simp only [List.map_cons, List.nodup_cons, List.mem_cons, not_or] at h ⊢
    exact ⟨⟨fun z => h.1.1 z.symm, h.2.1⟩, h.1.2, h.2.2⟩
end R
namespace R
open PySem L2
open PySem.W (Frag)
section
variable {B H H' : Hp} {Lw : List (Addr × HO)} {p : Addr} {o : HO} {K : Frag}
/-- what is owned is let stand for good -/
theorem Own.fix (O : Own B ((p, o) :: Lw) H) : Own (upd B p o) Lw H := by
  have hn := O.nd
  simp only [List.map_cons, List.nodup_cons] at hn
  refine ⟨fun a v e => ?_, fun q hq => O.ow q (List.mem_cons_of_mem _ hq), fun q hq => ?_, hn.2⟩
  · by_cases h : a = p
    · subst h
      rw [upd_same] at e
      rw [← e]
      exact O.ow (a, o) List.mem_cons_self
    · rw [upd_ne h] at e; exact O.st _ _ e
  · have ne : q.1 ≠ p := fun z => hn.1 (List.mem_map.mpr ⟨q, hq, z⟩)
    rw [upd_ne ne]; exact O.no q (List.mem_cons_of_mem _ hq)
theorem Own.fixS (O : Own B ((p, o) :: Lw) H) : Same B (upd B p o) := fun b v e => by
  have h : B p = none := O.no (p, o) List.mem_cons_self
  rw [upd_ne (ne_of_none e h)]; exact e
theorem Own.sub {B' : Hp} (O : Own B' Lw H) (s : Same B B') : Own B Lw H := ⟨fun a v e => O.st _ _ (s _ _ e), O.ow, fun q hq => s.free (O.no q hq), O.nd⟩
end
mutual
theorem dp_same {K : Frag} {H H' : Hp} (s : Same H H') : ∀ (d : PyData) (v : V), Dp K H v d → Dp K H' v d
  | .none, _, h => by cases h; exact .non
  | .bool b, _, h => by cases h; exact .bl b
  | .int i, _, h => by cases h; exact .int i
  | .str x, _, h => by cases h; exact .str x
  | .list ds, _, h => by
    cases h with
    | lst h1 h2 => exact .lst (s.seq h1) (dpAll_same s ds _ h2)
  | .tuple ds, _, h => by
    cases h with
    | tup h1 h2 =>
      refine .tup ?_ (dpAll_same s ds _ h2)
      rcases h1 with (h | ⟨q, h⟩) | h
      · exact .inl (.inl (s _ _ h))
      · exact .inl (.inr ⟨q, s _ _ h⟩)
      · exact .inr h
  | .dict _, _, h => by cases h
theorem dpAll_same {K : Frag} {H H' : Hp} (s : Same H H') : ∀ (ds : List PyData) (vs : List V), DpAll K H vs ds → DpAll K H' vs ds
  | [], _, h => by cases h; exact .nil
  | d :: ds, _, h => by
    cases h with
    | cons h1 h2 => exact .cons (dp_same s d _ h1) (dpAll_same s ds _ h2)
end
end R
namespace R
open PySem L2
theorem Own.got {B H H' : Hp} {Lw : List (Addr × HO)} {p : Addr} {o : HO} (O : Own B Lw H) (s : Same H H') (h : H p = none) (h' : H' p = some o) : Own B ((p, o) :: Lw) H' := by
  have O1 := O.same s
  refine ⟨O1.st, fun q hq => ?_, fun q hq => ?_, ?_⟩
  · rcases List.mem_cons.mp hq with rfl | hq
    · exact h'
    · exact O1.ow q hq
  · rcases List.mem_cons.mp hq with rfl | hq
    · exact O.free h
    · exact O1.no q hq
  · rw [List.map_cons, List.nodup_cons]
    refine ⟨fun z => ?_, O.nd⟩
    obtain ⟨q, hq, e⟩ := List.mem_map.mp z
    exact O.out h q hq e
end R
namespace R
open PySem L2
theorem Own.butNew {B H H' : Hp} {Lw : List (Addr × HO)} {a p : Addr} {o u v : HO} (O : Own B Lw H) (i : Nat) (h : Lw[i]? = some (a, o)) (k : ∀ b v, b ≠ a → H b = some v → H' b = some v) (ha : H' a = some u) (hp : H p = none) (hv : H' p = some v) : Own B ((p, v) :: Lw.set i (a, u)) H' := by
  have O1 := O.but i h k ha
  refine ⟨O1.st, fun q hq => ?_, fun q hq => ?_, ?_⟩
  · rcases List.mem_cons.mp hq with rfl | hq
    · exact hv
    · exact O1.ow q hq
  · rcases List.mem_cons.mp hq with rfl | hq
    · exact O.free hp
    · exact O1.no q hq
  · rw [List.map_cons, List.nodup_cons]
    refine ⟨fun z => ?_, O1.nd⟩
    rw [set_map1 h] at z
    obtain ⟨q, hq, e⟩ := List.mem_map.mp z
    exact O.out hp q hq e
/-- what is new to the owner was new ahead of its changes -/
theorem Own.was {H H0 : Hp} {Lw : List (Addr × HO)} {a p : Addr} {o : HO} (O : Own (del1 H0 a) Lw H) (ha : H0 a = some o) (hl : ∃ (i : Nat) (u : HO), Lw[i]? = some (a, u)) (hp : H p = none) : H0 p = none := by
  cases e : H0 p with
  | none => rfl
  | some w =>
    by_cases z : p = a
    · obtain ⟨i, u, h⟩ := hl
      have q := O.get i h
      rw [← z, hp] at q
      cases q
    · have q := O.st p w (by unfold del1; rw [if_neg z]; exact e)
      rw [hp] at q
      cases q
end R
namespace R
open PySem L2
theorem Own.less {B H : Hp} {Lw Lw' : List (Addr × HO)} (O : Own B Lw H) (s : Lw'.Sublist Lw) : Own B Lw' H :=
  ⟨O.st, fun q hq => O.ow q (s.subset hq), fun q hq => O.no q (s.subset hq), O.nd.sublist (s.map _)⟩
theorem Own.drop {B H : Hp} {Lw : List (Addr × HO)} (O : Own B Lw H) (n : Nat) : Own B (Lw.drop n) H := O.less (List.drop_sublist n Lw)
end R
namespace R
open PySem L2
theorem Own.perm {B H : Hp} {Lw Lw' : List (Addr × HO)} (O : Own B Lw H) (p : Lw'.Perm Lw) : Own B Lw' H :=
  ⟨O.st, fun q hq => O.ow q (p.mem_iff.mp hq), fun q hq => O.no q (p.mem_iff.mp hq), ((p.map _).nodup_iff).mpr O.nd⟩
/-- what a call has laid anew, beside what is owned -/
theorem Own.join {B H H' : Hp} {Lw New : List (Addr × HO)} (O : Own B Lw H) (O2 : Own H New H') : Own B (New ++ Lw) H' := by
  refine ⟨fun a u e => O2.st _ _ (O.st _ _ e), fun q hq => ?_, fun q hq => ?_, ?_⟩
  · rcases List.mem_append.mp hq with hq | hq
    · exact O2.ow q hq
    · exact O2.st _ _ (O.ow q hq)
  · rcases List.mem_append.mp hq with hq | hq
    · exact O.free (O2.no q hq)
    · exact O.no q hq
  · rw [List.map_append, List.nodup_append]
    refine ⟨O2.nd, O.nd, fun a ha b hb e => ?_⟩
    obtain ⟨q, hq, rfl⟩ := List.mem_map.mp ha
    obtain ⟨r, hr, rfl⟩ := List.mem_map.mp hb
    have z := O.ow r hr
    rw [← e, O2.no q hq] at z
    cases z
/-- the first ones are let stand for good -/
theorem Own.fixTo {H : Hp} {Lw : List (Addr × HO)} : ∀ {New : List (Addr × HO)} {B : Hp}, Own B (New ++ Lw) H → ∃ B', Same B B' ∧ Own B' Lw H ∧ ∀ q ∈ New, B' q.1 = some q.2
  | [], B, O => ⟨B, Same.refl B, O, fun _ h => by simp at h⟩
  | (p, u) :: New, B, O => by
    have O1 : Own B ((p, u) :: (New ++ Lw)) H := O
    obtain ⟨B', s, O', h⟩ := Own.fixTo (O1.fix)
    refine ⟨B', O1.fixS.trans s, O', fun q hq => ?_⟩
    rcases List.mem_cons.mp hq with rfl | hq
    · exact s _ _ upd_same
    · exact h q hq
end R

namespace R
open PySem PySem.Spec PyProof.Rows L2
open PySem.W (Frag)
/-! ### rules of our own -/
theorem op_mulX {X : Cx} : OpR X (binaryOp .Mult) (rI IntMulOk fun i j => .int (i * j)) := opI fun _ _ _ _ _ _ _ hc q => mul_int q hc
theorem mx_l {i j : Int} (h1 : -(2 ^ 64) < i) (h2 : i < 2 ^ 64) : IntMulOk i j := CMul.ok (.inl ⟨h1, h2⟩)
theorem mx_r {i j : Int} (h1 : -(2 ^ 64) < j) (h2 : j < 2 ^ 64) : IntMulOk i j := CMul.ok (.inr ⟨h1, h2⟩)
theorem pe_globI {X : Cx} {x : Str} {i : Int} {pos : Pos} (hg : Gl X x) (hm : ∃ t, X.mg x = some (.int i t)) (hd : (x == ("__debug__" : Str)) = false := by decide) : PE X (.Name x pos) (tC (.int i)) := by
  obtain ⟨t, h⟩ := hm
  exact pe_glob hg h ⟨t, rfl⟩ hd
/-- len, tuple(..), list(..) of a list or tuple -/
def rLen (K : Frag) : List V → Hp → VK → Prop := fun xs H Q => ∃ p ys, xs = [.ref p] ∧ (SqL K H p ys ∨ SqT K H p ys) ∧ Q (.int ys.length) H
theorem call_lenR {X : Cx} : CallR X (.builtin "len") (rLen X.K) := call_len_seq
def rAbs : List V → Hp → VK → Prop := fun xs H Q => ∃ i, xs = [.int i] ∧ Q (.int (if i < 0 then -i else i)) H
theorem call_absR {X : Cx} : CallR X (.builtin "abs") rAbs := call_abs
def rTupOf (K : Frag) : List V → Hp → VK → Prop := fun xs H Q => ∃ p ys, xs = [.ref p] ∧ ((SqL K H p ys ∧ ∀ l, H l = none → Q (.ref l) (upd H l (.tup ys))) ∨ (SqT K H p ys ∧ Q (.ref p) H))
theorem call_tupR {X : Cx} : CallR X (.type "tuple") (rTupOf X.K) := call_tuple_of
def rLstOf (K : Frag) : List V → Hp → VK → Prop := fun xs H Q => ∃ p ys, xs = [.ref p] ∧ (SqL K H p ys ∨ SqT K H p ys) ∧ ∀ l, H l = none → Q (.ref l) (upd H l (.lst ys))
theorem call_lstR {X : Cx} : CallR X (.type "list") (rLstOf X.K) := call_list_of
/-! ### the steps -/
/-- a new list, a new tuple -/
def NewL (xs : List V) (H : Hp) (Q : VK) : Prop := xs.length ≤ sizeLine ∧ ∀ p, H p = none → Q (.ref p) (upd H p (.lst xs))
def NewT (xs : List V) (H : Hp) (Q : VK) : Prop := xs.length ≤ sizeLine ∧ ∀ p, H p = none → Q (.ref p) (upd H p (.tup xs))
section
variable {t u : TS} {D : Ends} {σ : L2.St} {H : Hp} {te ta tb tc : TE} {g : TG} {c d : TT} {Q : VK} {v x y : V} {i : Nat} {r r' : R2} {QB : Bool → Hp → Prop} {QL : List V → Hp → Prop} {K : Frag} {tr : TA} {tl th : TO}
theorem a_seq (h : t { D with nx := u D } σ H) : tSeq t u D σ H := h
theorem a_next (h : D.nx σ H) : tNext D σ H := h
theorem a_asg (h : te σ H fun x H1 => g x σ H1 D.nx) : tAsg te g D σ H := h
theorem a_gname {Qs : L2.St → Hp → Prop} (h : Qs (σ.set i (some v)) H) : gName i v σ H Qs := h
theorem a_drop (h : te σ H fun _ H1 => D.nx σ H1) : tDrop te D σ H := h
theorem a_ret (h : te σ H D.rt) : tRet te D σ H := h
theorem a_retN (h : D.rt .non H) : tRetN D σ H := h
theorem a_if (h : c σ H fun b H1 => if b = true then t D σ H1 else u D σ H1) : tIfS c t u D σ H := h
theorem a_var (e : σ[i]? = some (some v)) (h : Q v H) : tVar i σ H Q := ⟨v, e, h⟩
theorem a_c (h : Q v H) : tC v σ H Q := h
theorem a_op (h : ta σ H fun x H1 => tb σ H1 fun y H2 => r x y H2 Q) : tOp r ta tb σ H Q := h
theorem a_un {f : V → Hp → VK → Prop} (h : ta σ H fun x H1 => f x H1 Q) : tUn f ta σ H Q := h
theorem a_neg {n : Int} (h : Q (.int (-n)) H) : rU (fun i => .int (-i)) (.int n) H Q := ⟨n, rfl, h⟩
theorem a_test (h : te σ H fun x H' => ∃ k, x = .bl k ∧ QB k H') : tTest te σ H QB := h
theorem a_tB (h : te σ H fun x H' => ∃ k, x = .bl k ∧ QB k H') : tB te σ H QB := h
theorem a_bk {b : Bool} (h : QB b H) : ∃ k, V.bl b = .bl k ∧ QB k H := ⟨b, rfl, h⟩
theorem a_and (h : c σ H fun b H1 => if b = true then d σ H1 QB else QB false H1) : tAnd c d σ H QB := h
theorem a_or (h : c σ H fun b H1 => if b = true then QB true H1 else d σ H1 QB) : tOr c d σ H QB := h
theorem a_not (h : c σ H fun b H1 => QB (!b) H1) : tNot c σ H QB := h
theorem a_andV (h : ta σ H fun x H1 => ∃ b, x = .bl b ∧ if b = true then tb σ H1 Q else Q (.bl false) H1) : tAndV ta tb σ H Q := h
theorem a_orV (h : ta σ H fun x H1 => ∃ b, x = .bl b ∧ if b = true then Q (.bl true) H1 else tb σ H1 Q) : tOrV ta tb σ H Q := h
theorem a_notV (h : ta σ H fun x H1 => ∃ b, x = .bl b ∧ Q (.bl (!b)) H1) : tNotV ta σ H Q := h
theorem a_bv {b : Bool} {A : Bool → Prop} (h : A b) : ∃ k, V.bl b = .bl k ∧ A k := ⟨b, rfl, h⟩
theorem a_ifE (h : c σ H fun b H1 => if b = true then ta σ H1 Q else tb σ H1 Q) : tIf c ta tb σ H Q := h
theorem a_nil (h : QL [] H) : tNil σ H QL := h
theorem a_cons (h : te σ H fun x H1 => tr σ H1 fun xs H2 => QL (x :: xs) H2) : tCons te tr σ H QL := h
theorem a_tup (h : tr σ H fun xs H1 => NewT xs H1 Q) : tTup tr σ H Q := h
theorem a_lst (h : tr σ H fun xs H1 => NewL xs H1 Q) : tLst tr σ H Q := h
theorem a_cb {f : List V → Hp → VK → Prop} (h : tr σ H fun vs H1 => f vs H1 Q) : tCB f tr σ H Q := h
theorem a_call {sp : Sp} {dvs : List V} {E : XK} (h : tr σ H fun vs H1 => sp (vs ++ dvs) H1 Q E) : tCall sp dvs E tr σ H Q := h
theorem a_chain (h : ta σ H fun x H1 => tb σ H1 fun y H2 => r x y H2 fun z H3 => ∃ k, z = .bl k ∧ (if k = true then tc σ H3 fun w' H4 => r' y w' H4 Q else Q (.bl false) H3)) : tChain r r' ta tb tc σ H Q := h
theorem a_sl {f : V → Option Int → Option Int → Hp → VK → Prop} (h : te σ H fun x H1 => tl σ H1 fun l H2 => th σ H2 fun u H3 => f x l u H3 Q) : tSl f te tl th σ H Q := h
theorem a_npart {Qo : Option Int → Hp → Prop} (h : Qo none H) : tNoPart σ H Qo := h
theorem a_part {Qo : Option Int → Hp → Prop} (h : te σ H fun x H1 => ∃ i, x = .int i ∧ Qo (some i) H1) : tPart te σ H Qo := h
theorem a_ik {n : Int} {A : Int → Prop} (h : A n) : ∃ i, V.int n = .int i ∧ A i := ⟨n, rfl, h⟩
theorem a_gsub {to ti : TE} {ts : TSet} {Qs : L2.St → Hp → Prop} (h : to σ H fun o H1 => ti σ H1 fun i H2 => ts o i v H2 fun H3 => Qs σ H3) : gSub to ti ts v σ H Qs := h
theorem a_bm {T : String} {f : V → List V → Hp → VK → Prop} {to : TE} (h : to σ H fun x H1 => tyV K T x H1 ∧ tr σ H1 fun xs H2 => f x xs H2 Q) : tBM K T f to tr σ H Q := h
theorem a_bm0 {T : String} {f : V → List V → Hp → VK → Prop} {to : TE} (h : to σ H fun x H1 => tyV K T x H1 ∧ f x [] H1 Q) : tBM0 K T f to σ H Q := h
theorem a_par {a b : Nat} (h : tr σ H fun vs H1 => ∃ v w, vs = [v, w] ∧ D.nx ((σ.set a (some v)).set b (some w)) H1) : tPar a b tr D σ H := h
theorem a_par2 {A : V → V → Prop} (h : A x y) : ∃ v w, [x, y] = [v, w] ∧ A v w := ⟨x, y, rfl, h⟩
theorem a_for {wi : TI} (h : wi σ H fun J H1 => ∃ W : Nat → Nat → L2.St → Hp → Prop, (∃ m, W 0 m σ H1) ∧ ∀ i m σ H, W i m σ H →
  (J.stop i H ∧ D.nx σ H) ∨ (J.go i H ∧ ∃ N : L2.St → Hp → Prop, (∀ σ' H', N σ' H' → ∃ m', m' < m ∧ W (i + 1) m' σ' H') ∧ ∀ x H', J.yld i H x H' → g x σ H' fun σ2 H2 => t { D with nx := N, ct := N, bk := D.nx } σ2 H2)) : tFor wi g t D σ H := h
theorem a_rng1 {RR : It → Hp → Prop} (h : tr σ H fun vs H1 => ∃ j : Int, vs = [.int j] ∧ -(2 ^ 62) ≤ j ∧ j < 2 ^ 62 ∧ RR (Itr 0 j.toNat) H1) : iRng1 tr σ H RR := h
theorem a_rng1' {j : Int} {A : Int → Prop} (h1 : -(2 ^ 62) ≤ j) (h2 : j < 2 ^ 62) (h : A j) : ∃ k : Int, [V.int j] = [.int k] ∧ -(2 ^ 62) ≤ k ∧ k < 2 ^ 62 ∧ A k := ⟨j, rfl, h1, h2, h⟩
theorem a_rng2 {RR : It → Hp → Prop} (h : tr σ H fun vs H1 => ∃ i j : Int, vs = [.int i, .int j] ∧ (-(2 ^ 62) ≤ i ∧ i < 2 ^ 62 ∧ -(2 ^ 62) ≤ j ∧ j < 2 ^ 62) ∧ RR (Itr i (j - i).toNat) H1) : iRng2 tr σ H RR := h
theorem a_rng2' {i j : Int} {A : Int → Int → Prop} (h1 : -(2 ^ 62) ≤ i ∧ i < 2 ^ 62 ∧ -(2 ^ 62) ≤ j ∧ j < 2 ^ 62) (h : A i j) : ∃ a b : Int, [V.int i, V.int j] = [.int a, .int b] ∧ (-(2 ^ 62) ≤ a ∧ a < 2 ^ 62 ∧ -(2 ^ 62) ≤ b ∧ b < 2 ^ 62) ∧ A a b := ⟨i, j, rfl, h1, h⟩
theorem a_lc {wi : TI} {tt : TT} {vs : List Nat} (h : wi σ H fun J H1 => ∀ D, H1 D = none → ∃ W : Nat → Nat → Hp → Prop, (∃ m, W 0 m (upd H1 D (.lst []))) ∧ ∀ i m H, W i m H →
  (J.stop i H ∧ Q (.ref D) H) ∨ (J.go i H ∧ ∃ Nx : Hp → Prop, (∀ H', Nx H' → ∃ m', m' < m ∧ W (i + 1) m' H') ∧ ∀ x H', J.yld i H x H' → g x (wipe σ vs) H' fun σ2 H2 => wipe σ2 vs = wipe σ vs ∧ tt σ2 H2 fun b H3 =>
    if b = true then te σ2 H3 fun y H4 => ∃ acc, H4 D = some (.lst acc) ∧ acc.length < sizeLine ∧ Nx (upd H4 D (.lst (acc ++ [y]))) else Nx H3)) : tLc wi g tt te vs σ H Q := h
theorem a_gtup {n : Nat} {gs : TGs} {p : Addr} {xs : List V} {Qs : L2.St → Hp → Prop} (hs : SqT K H p xs) (hl : xs.length = n) (h : gs xs σ H Qs) : gTup K n gs (.ref p) σ H Qs := ⟨p, xs, rfl, hs, hl, h⟩
theorem a_gcons {gs : TGs} {vs : List V} {Qs : L2.St → Hp → Prop} (h : g v σ H fun σ' H' => gs vs σ' H' Qs) : gCons g gs (v :: vs) σ H Qs := ⟨v, vs, rfl, h⟩
theorem a_gnil {Qs : L2.St → Hp → Prop} (h : Qs σ H) : gNil [] σ H Qs := ⟨rfl, h⟩
theorem a_yes (h : QB true H) : tYes σ H QB := h
-- by values
theorem a_I0 {f : Int → Int → V} {m n : Int} (h : Q (f m n) H) : rI0 f (.int m) (.int n) H Q := ⟨m, n, rfl, rfl, h⟩
theorem a_I {C : Int → Int → Prop} {f : Int → Int → V} {m n : Int} (hc : C m n) (h : Q (f m n) H) : rI C f (.int m) (.int n) H Q := ⟨m, n, rfl, rfl, hc, h⟩
theorem a_eqI {m n : Int} (h : Q (.bl (decide (m = n))) H) : rEq (.int m) (.int n) H Q := ⟨rfl, by
  have e : decide (V.int m = V.int n) = decide (m = n) := by rw [dec_int, Bool.beq_eq_decide_eq]
  rw [e]; exact h⟩
theorem a_neI {m n : Int} (h : Q (.bl (!decide (m = n))) H) : rNe (.int m) (.int n) H Q := ⟨rfl, by
  have e : decide (V.int m = V.int n) = decide (m = n) := by rw [dec_int, Bool.beq_eq_decide_eq]
  rw [e]; exact h⟩
theorem a_isN1 (h : Q (.bl true) H) : rIsN .non .non H Q := ⟨rfl, h⟩
theorem a_isN0 (hx : x ≠ .non) (h : Q (.bl false) H) : rIsN x .non H Q := ⟨rfl, by rw [decide_eq_false hx]; exact h⟩
theorem a_notN1 (h : Q (.bl false) H) : rNotN .non .non H Q := ⟨rfl, h⟩
theorem a_notN0 (hx : x ≠ .non) (h : Q (.bl true) H) : rNotN x .non H Q := ⟨rfl, by rw [decide_eq_false hx]; exact h⟩
theorem a_ixL {p : Addr} {xs : List V} {n : Int} (hs : SqL K H p xs) (ha : atI xs n = some v) (h : Q v H) : rIxL K (.ref p) (.int n) H Q := ⟨p, xs, n, v, rfl, rfl, hs, ha, h⟩
theorem a_ixT {p : Addr} {xs : List V} {n : Int} (hs : SqT K H p xs) (ha : atI xs n = some v) (h : Q v H) : rIxT K (.ref p) (.int n) H Q := ⟨p, xs, n, v, rfl, rfl, hs, ha, h⟩
theorem a_setL {B : Hp} {Lw : List (Addr × HO)} {p : Addr} {xs : List V} {n : Int} {j : Nat} {Qh : Hp → Prop} (O : Own B Lw H) (i : Nat) (h : Lw[i]? = some (p, .lst xs)) (hj : ixN xs.length n = some j)
    (q : ∀ H', Own B (Lw.set i (p, .lst (xs.set j v))) H' → Qh H') : rSetL (.ref p) (.int n) v H Qh := ⟨p, xs, n, j, rfl, rfl, O.get i h, hj, q _ (O.put i h)⟩
theorem a_app {B : Hp} {Lw : List (Addr × HO)} {p : Addr} {xs : List V} (O : Own B Lw H) (i : Nat) (h : Lw[i]? = some (p, .lst xs)) (hl : xs.length ≤ 1000000)
    (q : ∀ H', Own B (Lw.set i (p, .lst (xs ++ [y]))) H' → Q .non H') : rAppend (.ref p) [y] H Q := ⟨p, xs, y, rfl, rfl, O.get i h, Nat.lt_of_le_of_lt hl (by decide), q _ (O.put i h)⟩
theorem a_mkL {B : Hp} {Lw : List (Addr × HO)} {xs : List V} (O : Own B Lw H) (hl : xs.length ≤ 1000000) (q : ∀ p H', H p = none → Own B ((p, .lst xs) :: Lw) H' → Q (.ref p) H') : NewL xs H Q :=
  ⟨Nat.le_trans hl (by decide), fun p hp => q p _ hp (O.new hp)⟩
theorem a_mkT {B : Hp} {Lw : List (Addr × HO)} {xs : List V} (O : Own B Lw H) (hl : xs.length ≤ 1000000) (q : ∀ p H', H p = none → Own B ((p, .tup xs) :: Lw) H' → Q (.ref p) H') : NewT xs H Q :=
  ⟨Nat.le_trans hl (by decide), fun p hp => q p _ hp (O.new hp)⟩
theorem a_int1 {n : Int} {A : Int → Prop} {C : Prop} (h : A n) : (∃ i, [V.int n] = [V.int i] ∧ A i) ∨ C := .inl ⟨n, rfl, h⟩
theorem a_len {q : Addr} {ys : List V} (hs : SqL K H q ys ∨ SqT K H q ys) (h : Q (.int ys.length) H) : rLen K [V.ref q] H Q := ⟨q, ys, rfl, hs, h⟩
theorem a_sum {a : Addr} {ns : List Int} (hs : SqL K H a (ns.map V.int)) (h : Q (.int ns.sum) H) : rSum K [V.ref a] H Q := ⟨a, ns, rfl, hs, h⟩
theorem a_tupL {B : Hp} {Lw : List (Addr × HO)} {a : Addr} {xs : List V} (O : Own B Lw H) (hs : SqL K H a xs) (h : ∀ p H', H p = none → Own B ((p, .tup xs) :: Lw) H' → Q (.ref p) H') : rTupOf K [V.ref a] H Q := ⟨a, xs, rfl, .inl ⟨hs, fun l hl => h l _ hl (O.new hl)⟩⟩
theorem a_tupT {a : Addr} {xs : List V} (hs : SqT K H a xs) (h : Q (.ref a) H) : rTupOf K [V.ref a] H Q := ⟨a, xs, rfl, .inr ⟨hs, h⟩⟩
theorem a_lstO {B : Hp} {Lw : List (Addr × HO)} {a : Addr} {xs : List V} (O : Own B Lw H) (hs : SqL K H a xs ∨ SqT K H a xs) (h : ∀ p H', H p = none → Own B ((p, .lst xs) :: Lw) H' → Q (.ref p) H') : rLstOf K [V.ref a] H Q := ⟨a, xs, rfl, hs, fun l hl => h l _ hl (O.new hl)⟩
theorem a_pow {m n : Int} {k : Nat} (hn : n = (k : Int)) (hk : k ≤ 1000000) (hm : m.natAbs < 2 ^ 64) (h : Q (.int (m ^ k)) H) : rI CPow (fun i j => .int (i ^ j.toNat)) (.int m) (.int n) H Q := by
  subst hn
  exact ⟨m, k, rfl, rfl, ⟨by omega, by omega, hm⟩, h⟩
theorem a_abs {n : Int} (h : Q (.int (n.natAbs : Int)) H) : rAbs [V.int n] H Q := ⟨n, rfl, by
  have e : (if n < 0 then -n else n) = (n.natAbs : Int) := by split <;> omega
  rw [e]; exact h⟩
-- tests
theorem a_tt {A B : Prop} (h : A) : if true = true then A else B := by rw [if_pos rfl]; exact h
theorem a_ff {A B : Prop} (h : B) : if false = true then A else B := by rw [if_neg Bool.false_ne_true]; exact h
theorem a_nt {A B : Prop} (h : B) : if (!true) = true then A else B := a_ff h
theorem a_nf {A B : Prop} (h : A) : if (!false) = true then A else B := a_tt h
theorem a_itT {p A B : Prop} [Decidable p] (hp : p) (h : A) : if decide p = true then A else B := by rw [if_pos (decide_eq_true hp)]; exact h
theorem a_itF {p A B : Prop} [Decidable p] (hp : ¬ p) (h : B) : if decide p = true then A else B := by rw [if_neg (by rw [decide_eq_false hp]; decide)]; exact h
theorem a_it2 {p A B : Prop} [Decidable p] (h1 : p → A) (h2 : ¬ p → B) : if decide p = true then A else B := by
  by_cases hp : p
  · exact a_itT hp (h1 hp)
  · exact a_itF hp (h2 hp)
theorem a_niT {p A B : Prop} [Decidable p] (hp : p) (h : B) : if (!decide p) = true then A else B := by rw [decide_eq_true hp]; exact a_nt h
theorem a_niF {p A B : Prop} [Decidable p] (hp : ¬ p) (h : A) : if (!decide p) = true then A else B := by rw [decide_eq_false hp]; exact a_nf h
theorem a_ni2 {p A B : Prop} [Decidable p] (h1 : p → B) (h2 : ¬ p → A) : if (!decide p) = true then A else B := by
  by_cases hp : p
  · exact a_niT hp (h1 hp)
  · exact a_niF hp (h2 hp)
theorem a_itB {b : Bool} {A B : Prop} (h1 : b = true → A) (h2 : b = false → B) : if b = true then A else B := by
  cases b with
  | true => exact a_tt (h1 rfl)
  | false => exact a_ff (h2 rfl)
theorem a_niB {b : Bool} {A B : Prop} (h1 : b = true → B) (h2 : b = false → A) : if (!b) = true then A else B := by
  cases b with
  | true => exact a_nt (h1 rfl)
  | false => exact a_nf (h2 rfl)
theorem a_cT {p q A B : Prop} [Decidable p] [Decidable q] (hp : p) (hq : q) (h : A) : if (decide p && decide q) = true then A else B := by rw [decide_eq_true hp, decide_eq_true hq]; exact a_tt h
theorem a_cF {p q A B : Prop} [Decidable p] [Decidable q] (hp : ¬ (p ∧ q)) (h : B) : if (decide p && decide q) = true then A else B := by
  by_cases h1 : p
  · rw [decide_eq_true h1, decide_eq_false (fun z => hp ⟨h1, z⟩)]; exact a_ff h
  · rw [decide_eq_false h1]; exact a_ff h
theorem a_ncT {p q A B : Prop} [Decidable p] [Decidable q] (hp : p) (hq : q) (h : B) : if (!(decide p && decide q)) = true then A else B := by rw [decide_eq_true hp, decide_eq_true hq]; exact a_nt h
theorem a_isiI {i : Int} (h : Q (.bl true) H) : rIsi K [.int i, .ty "int"] H Q := ⟨_, _, .type "int", .type "int", true, rfl, .ty _, .base (.int i), kit_ty (by decide +kernel), h⟩
theorem a_isiB {i : Int} (h : Q (.bl false) H) : rIsi K [.int i, .ty "bool"] H Q := ⟨_, _, .type "int", .type "bool", false, rfl, .ty _, .base (.int i), kit_ty (by decide +kernel), h⟩
end
theorem divW {m n : Int} (h : 0 < n) (h' : n < 10 ^ 60) : CDivW m n := wide_div (b := 200) h (by
  have q : (10 : Int) ^ 60 < 2 ^ 200 := by decide
  have r : n < 2 ^ 200 := Int.lt_trans h' q
  omega) (by decide) (by decide)
theorem at0 {α : Type} {xs : List α} {n : Int} {j : Nat} {v : α} (e : n = (j : Int)) (h : xs[j]? = some v) : atI xs n = some v := by
  rw [e]; exact atI_nat h
end R
namespace R
open PySem PySem.Spec PyProof.Rows L2
theorem mx_w {i j : Int} (a b : Nat) (ha : i.natAbs < 2 ^ a) (hb : j.natAbs < 2 ^ b) (h0 : 0 < a := by decide) (h1 : 0 < b := by decide) (h : a + b ≤ 1000000 := by decide) : IntMulOk i j := (wide_mul ha hb h0 h1 h).ok
end R
namespace R
open PySem PySem.Spec PyProof.Rows L2
open PySem.W (Frag)
section
variable {K : Frag} {B H : Hp} {Lw : List (Addr × HO)} {p : Addr} {z : Int} {Q : VK}
/-- an item of a written list at a drawn place -/
theorem a_ixV {xs : List V} (O : Own B Lw H) (i : Nat) (h : Lw[i]? = some (p, .lst xs)) (h0 : 0 ≤ z) (h1 : z < xs.length) (q : ∀ v, v ∈ xs → Q v H) : rIxL K (.ref p) (.int z) H Q := by
  have e : z.toNat < xs.length := by omega
  exact a_ixL (O.sq i h) (at0 (j := z.toNat) (by omega) (List.getElem?_eq_getElem e)) (q _ (List.getElem_mem e))
theorem a_ixM {ms : List Int} (O : Own B Lw H) (i : Nat) (h : Lw[i]? = some (p, .lst (ms.map V.int))) (h0 : 0 ≤ z) (h1 : z < ms.length) (q : ∀ m, m ∈ ms → Q (.int m) H) : rIxL K (.ref p) (.int z) H Q :=
  a_ixV O i h h0 (by rw [List.length_map]; exact h1) fun v hv => by
    obtain ⟨m, hm, rfl⟩ := List.mem_map.mp hv
    exact q m hm
end
end R
namespace R
open PySem PySem.Spec PyProof.Rows L2
open PySem.W (Frag)
section
variable {K : Frag} {B H : Hp} {Lw : List (Addr × HO)} {p : Addr} {z : Int} {Q : VK}
/-- an item of a list of ints -/
theorem a_ixI {ms : List Int} (O : Own B Lw H) (i : Nat) (h : Lw[i]? = some (p, .lst (ms.map V.int))) (h0 : 0 ≤ z) (h1 : z.toNat < ms.length) (q : Q (.int (ms[z.toNat])) H) : rIxL K (.ref p) (.int z) H Q :=
  a_ixL (O.sq i h) (at0 (j := z.toNat) (by omega) (by rw [List.getElem?_map, List.getElem?_eq_getElem h1]; rfl)) q
end
end R
namespace R
open PySem PySem.Spec PyProof.Rows L2
/-- an if whose test comes out one way on all ways -/
theorem a_ifNo {c : TT} {t u : TS} {D : Ends} {σ : L2.St} {H : Hp} (hc : ∀ QB : Bool → Hp → Prop, QB false H → c σ H QB) (h : u D σ H) : tIfS c t u D σ H := hc _ (a_ff h)
theorem a_ifYes {c : TT} {t u : TS} {D : Ends} {σ : L2.St} {H : Hp} (hc : ∀ QB : Bool → Hp → Prop, QB true H → c σ H QB) (h : t D σ H) : tIfS c t u D σ H := hc _ (a_tt h)
theorem a_ifNoH {c : TT} {t u : TS} {D : Ends} {σ : L2.St} {H : Hp} (P : Hp → Prop) (hc : ∀ QB : Bool → Hp → Prop, (∀ H', P H' → QB false H') → c σ H QB) (h : ∀ H', P H' → u D σ H') : tIfS c t u D σ H := hc _ fun H' p => a_ff (h H' p)
end R
namespace R
open PySem PySem.Spec PyProof.Rows L2
theorem q_F {p : Prop} [Decidable p] {QB : Bool → Hp → Prop} {H : Hp} (hq : QB false H) (hp : ¬ p) : QB (decide p) H := by rw [decide_eq_false hp]; exact hq
theorem q_T {p : Prop} [Decidable p] {QB : Bool → Hp → Prop} {H : Hp} (hq : QB true H) (hp : p) : QB (decide p) H := by rw [decide_eq_true hp]; exact hq
theorem q_nT {p : Prop} [Decidable p] {QB : Bool → Hp → Prop} {H : Hp} (hq : QB false H) (hp : p) : QB (!decide p) H := by rw [decide_eq_true hp]; exact hq
theorem q_nF {p : Prop} [Decidable p] {QB : Bool → Hp → Prop} {H : Hp} (hq : QB true H) (hp : ¬ p) : QB (!decide p) H := by rw [decide_eq_false hp]; exact hq
end R
namespace R
open PySem PySem.Spec PyProof.Rows L2
/-- while: W by a measure -/
theorem a_while {c : TT} {tb : TS} {D : Ends} {σ : L2.St} {H : Hp} (W : Nat → L2.St → Hp → Prop) (h0 : ∃ m, W m σ H)
    (hs : ∀ m σ H, W m σ H → c σ H fun b H1 => if b = true then (∃ N : L2.St → Hp → Prop, (∀ σ' H', N σ' H' → ∃ m', m' < m ∧ W m' σ' H') ∧ tb { D with nx := N, ct := N, bk := D.nx } σ H1) else D.nx σ H1) : tWhile c tb D σ H := ⟨W, h0, hs⟩
theorem a_turn {tb : TS} {D : Ends} {σ : L2.St} {H1 : Hp} {m : Nat} {W : Nat → L2.St → Hp → Prop} (h : tb { D with nx := fun σ' H' => ∃ m', m' < m ∧ W m' σ' H', ct := fun σ' H' => ∃ m', m' < m ∧ W m' σ' H', bk := D.nx } σ H1) :
    ∃ N : L2.St → Hp → Prop, (∀ σ' H', N σ' H' → ∃ m', m' < m ∧ W m' σ' H') ∧ tb { D with nx := N, ct := N, bk := D.nx } σ H1 := ⟨_, fun _ _ h => h, h⟩
end R
namespace R
open PySem PySem.Spec PyProof.Rows L2
open PySem.W (Frag)
section
variable {K : Frag} {tr : TA} {tl : TE} {σ : L2.St} {H : Hp} {RR : It → Hp → Prop}
theorem a_enum {tr : TA} (h : tr σ H fun vs H1 => ∃ a xs, vs = [.ref a] ∧ SqL K H1 a xs ∧ RR (Ite K a) H1) : iEnum K tr σ H RR := h
theorem a_iL (h : tl σ H fun x H1 => ∃ a, x = .ref a ∧ (∃ xs, SqL K H1 a xs) ∧ RR (Itl K a) H1) : iList K tl σ H RR := h
theorem a_iT (h : tl σ H fun x H1 => ∃ a, x = .ref a ∧ (∃ xs, SqT K H1 a xs) ∧ RR (Itt K a) H1) : iTup K tl σ H RR := h
end
end R
namespace R
open PySem PySem.Spec PyProof.Rows L2
open PySem.W (Frag)
section
variable {K : Frag} {te : TE} {σ : L2.St} {H B : Hp} {Q : VK} {Lw : List (Addr × HO)} {a : Addr} {xs : List V}
def rRev (K : Frag) : V → Hp → VK → Prop := fun x H Q => ∃ a xs, x = .ref a ∧ SqL K H a xs ∧ ∀ p, H p = none → Q (.ref p) (upd H p (.lst xs.reverse))
theorem a_rev (h : te σ H fun x H1 => rRev K x H1 Q) : tRevL K te σ H Q := h
theorem a_revL (O : Own B Lw H) (hs : SqL K H a xs) (q : ∀ p H', H p = none → Own B ((p, .lst xs.reverse) :: Lw) H' → Q (.ref p) H') : rRev K (.ref a) H Q := ⟨a, xs, rfl, hs, fun p hp => q p _ hp (O.new hp)⟩
end
end R
namespace R
open PySem PySem.Spec PyProof.Rows L2
open PySem.W (Frag)
/-! ### within a comprehension: the frag named -/
theorem pe_fldK {X : Cx} {K : Frag} {e : Expr} {f : Str} {pos : Pos} {ta : TE} (he : PE X e ta) (hb : attributeBase e f X.env (eval e X.env) = eval e X.env) (hK : X.K = K := by rfl) : PE X (.Attribute e f pos) (tFld K ta f) := by
  subst hK; exact pe_fld he hb
theorem pg_tupK {X : Cx} {K : Frag} {pos : Pos} {es : List Expr} {k : Nat} {t : TGs} {n : Nat} (hc : X.calm = true) (h : PGs X es t) (hK : X.K = K := by rfl) (hn : (assignEach es X.env).length = n := by rfl) (hst : (assignEach es X.env).findIdx? (·.1) = none := by rfl) : PG X (.Tuple es k pos) (gTup K n t) := by
  subst hK; exact pg_tup hc h hn hst
end R

namespace R
/-! ## the first one of a row -/
theorem find_more {α : Type} {g : Nat → Option α} {i : Nat} (h : (List.range i).findSome? g = none) (e : g i = none) : (List.range (i + 1)).findSome? g = none := by
  rw [List.range_succ, List.findSome?_append, h]
  simp [e]
theorem find_hit {α : Type} {g : Nat → Option α} {i : Nat} {x : α} (h : (List.range i).findSome? g = none) (e : g i = some x) : ∀ n : Nat, i < n → (List.range n).findSome? g = some x := by
  intro n
  induction n with
  | zero => intro z; omega
  | succ n ih =>
    intro z
    rw [List.range_succ, List.findSome?_append]
    by_cases q : i = n
    · rw [← q, h]; simp [e]
    · rw [ih (by omega)]; rfl
theorem pow_bits {b : Int} {n m : Nat} (h0 : 0 ≤ b) (h1 : b ≤ 16) (hn : n ≤ m) : (b ^ n).natAbs < 2 ^ (4 * m + 1) := by
  rw [Int.natAbs_pow]
  have e1 : b.natAbs ≤ 16 := by omega
  have e2 : b.natAbs ^ n ≤ 16 ^ n := Nat.pow_le_pow_left e1 n
  have e3 : (16 : Nat) ^ n = 2 ^ (4 * n) := by rw [Nat.pow_mul]
  have e4 : (2 : Nat) ^ (4 * n) ≤ 2 ^ (4 * m) := Nat.pow_le_pow_right (by decide) (by omega)
  have e5 : (2 : Nat) ^ (4 * m + 1) = 2 ^ (4 * m) * 2 := Nat.pow_succ ..
  have e6 : 0 < (2 : Nat) ^ (4 * m) := Nat.pow_pos (by decide)
  omega
end R
namespace R
theorem find_ext {α : Type} {g : Nat → Option α} {n : Nat} : ∀ m : Nat, n ≤ m → (∀ i, n ≤ i → i < m → g i = none) → (List.range m).findSome? g = (List.range n).findSome? g := by
  intro m
  induction m with
  | zero => intro h _; rw [Nat.le_zero.mp h]
  | succ m ih =>
    intro h k
    by_cases e : n = m + 1
    · rw [e]
    · rw [List.range_succ, List.findSome?_append, ih (by omega) fun i h1 h2 => k i h1 (by omega)]
      simp [k m (by omega) (by omega)]
theorem find_same {α : Type} {g g' : Nat → Option α} : ∀ n : Nat, (∀ i, i < n → g i = g' i) → (List.range n).findSome? g = (List.range n).findSome? g' := by
  intro n
  induction n with
  | zero => intro _; rfl
  | succ n ih =>
    intro k
    rw [List.range_succ, List.findSome?_append, List.findSome?_append, ih fun i h => k i (by omega)]
    simp [k n (by omega)]
/-- the first hit: all of the rows ahead of i, and j of row i -/
def fst2 (h : Nat → Nat → Option Int) (B i j : Nat) : Option (Nat × Int) :=
  ((List.range i).findSome? fun p => ((List.range B).findSome? (h p)).map fun x => (p, x)).or (((List.range j).findSome? (h i)).map fun x => (i, x))
theorem fst2_yes {h : Nat → Nat → Option Int} {B i j : Nat} {x : Int} (e : h i j = some x) : fst2 h B i (j + 1) = (fst2 h B i j).or (some (i, x)) := by
  unfold fst2
  rw [List.range_succ, List.findSome?_append]
  cases (List.range i).findSome? fun p => ((List.range B).findSome? (h p)).map fun x => (p, x) <;> cases (List.range j).findSome? (h i) <;> simp [e]
theorem fst2_no {h : Nat → Nat → Option Int} {B i j : Nat} (e : h i j = none) : fst2 h B i (j + 1) = fst2 h B i j := by
  unfold fst2
  rw [List.range_succ, List.findSome?_append]
  cases (List.range j).findSome? (h i) <;> simp [e]
theorem fst2_row {h : Nat → Nat → Option Int} {B i : Nat} : fst2 h B (i + 1) 0 = fst2 h B i B := by
  unfold fst2
  rw [List.range_succ, List.findSome?_append]
  simp
theorem fst2_all {h : Nat → Nat → Option Int} {B i : Nat} : fst2 h B i 0 = (List.range i).findSome? fun p => ((List.range B).findSome? (h p)).map fun x => (p, x) := by
  unfold fst2
  simp
theorem head_snoc {α : Type} (ps : List α) (x : α) : (ps ++ [x]).head? = ps.head?.or (some x) := by
  cases ps <;> rfl
end R

namespace R
open PySem PySem.Spec PyProof.Rows L2
open PySem.W (Frag)
/-! ## lists and tuples as data -/
theorem canAll_map {α : Type} {f : α → PyData} (h : ∀ a, (f a).canLay0 = true) : ∀ l : List α, PyData.canLayAll0 (l.map f) = true
  | [] => rfl
  | a :: l => by
    show ((f a).canLay0 && PyData.canLayAll0 (l.map f)) = true
    rw [h a, canAll_map h l]; rfl
theorem depthAll_map {α : Type} {f : α → PyData} {n : Nat} (h : ∀ a, (f a).depth ≤ n) : ∀ l : List α, PyData.depthAll (l.map f) ≤ n
  | [] => Nat.zero_le _
  | a :: l => by
    have h1 := h a
    have h2 := depthAll_map h l
    show max (f a).depth (PyData.depthAll (l.map f)) ≤ n
    omega
theorem dpAll_map {α : Type} {K : Frag} {H : Hp} {g : α → V} {f : α → PyData} (h : ∀ a, Dp K H (g a) (f a)) : ∀ l : List α, DpAll K H (l.map g) (l.map f)
  | [] => .nil
  | a :: l => .cons (h a) (dpAll_map h l)
theorem shaped_of {d : PyData} (h1 : d.canLay0 = true) (h2 : d.depth ≤ 64) : SeqAt.shaped d = true := by
  unfold SeqAt.shaped
  rw [h1, decide_eq_true h2]; rfl
/-- a list of ints -/
def pyL (ns : List Int) : PyData := .list (ns.map .int)
def pyT (ns : List Int) : PyData := .tuple (ns.map .int)
theorem can_pyL (ns : List Int) : (pyL ns).canLay0 = true := canAll_map (fun _ => rfl) ns
theorem can_pyT (ns : List Int) : (pyT ns).canLay0 = true := canAll_map (fun _ => rfl) ns
theorem dep_pyL (ns : List Int) : (pyL ns).depth ≤ 1 := by
  have h := depthAll_map (f := PyData.int) (n := 0) (fun _ => Nat.le_refl 0) ns
  show PyData.depthAll (ns.map .int) + 1 ≤ 1
  omega
theorem dep_pyT (ns : List Int) : (pyT ns).depth ≤ 1 := by
  have h := depthAll_map (f := PyData.int) (n := 0) (fun _ => Nat.le_refl 0) ns
  show PyData.depthAll (ns.map .int) + 1 ≤ 1
  omega
section
variable {K : Frag} {H : Hp} {x y : V} {Q : VK} {d : PyData} {a b : Addr} {ns : List Int}
theorem dp_pyL (h : SqL K H a (ns.map V.int)) : Dp K H (.ref a) (pyL ns) := .lst h (dpAll_map (fun i => .int i) ns)
theorem dp_pyT (h : SqT K H a (ns.map V.int)) : Dp K H (.ref a) (pyT ns) := .tup h (dpAll_map (fun i => .int i) ns)
theorem a_eqD (hx : Dp K H x d) (hy : Dp K H y d) (h1 : d.canLay0 = true) (h2 : d.depth ≤ 64) (h : Q (.bl true) H) : rEqD K x y H Q :=
  ⟨d, d, hx, hy, shaped_of h1 h2, shaped_of h1 h2, by rw [SeqAt.eqv_refl d h1]; exact h⟩
theorem a_neD (hx : Dp K H x d) (hy : Dp K H y d) (h1 : d.canLay0 = true) (h2 : d.depth ≤ 64) (h : Q (.bl false) H) : rNeD K x y H Q :=
  ⟨d, d, hx, hy, shaped_of h1 h2, shaped_of h1 h2, by rw [SeqAt.eqv_refl d h1]; exact h⟩
theorem a_eqL (hx : SqL K H a (ns.map V.int)) (hy : SqL K H b (ns.map V.int)) (h : Q (.bl true) H) : rEqD K (.ref a) (.ref b) H Q := a_eqD (dp_pyL hx) (dp_pyL hy) (can_pyL ns) (Nat.le_trans (dep_pyL ns) (by decide)) h
theorem a_neL (hx : SqL K H a (ns.map V.int)) (hy : SqL K H b (ns.map V.int)) (h : Q (.bl false) H) : rNeD K (.ref a) (.ref b) H Q := a_neD (dp_pyL hx) (dp_pyL hy) (can_pyL ns) (Nat.le_trans (dep_pyL ns) (by decide)) h
theorem a_eqT (hx : SqT K H a (ns.map V.int)) (hy : SqT K H b (ns.map V.int)) (h : Q (.bl true) H) : rEqD K (.ref a) (.ref b) H Q := a_eqD (dp_pyT hx) (dp_pyT hy) (can_pyT ns) (Nat.le_trans (dep_pyT ns) (by decide)) h
theorem a_neT (hx : SqT K H a (ns.map V.int)) (hy : SqT K H b (ns.map V.int)) (h : Q (.bl false) H) : rNeD K (.ref a) (.ref b) H Q := a_neD (dp_pyT hx) (dp_pyT hy) (can_pyT ns) (Nat.le_trans (dep_pyT ns) (by decide)) h
end
end R
namespace R
open PySem PySem.Spec PyProof.Rows L2
open PySem.W (Frag)
theorem dpAll_snoc {K : Frag} {H : Hp} {v : V} {d : PyData} (h : Dp K H v d) : ∀ {vs : List V} {ds : List PyData}, DpAll K H vs ds → DpAll K H (vs ++ [v]) (ds ++ [d])
  | _, _, .nil => .cons h .nil
  | _, _, .cons h1 h2 => .cons h1 (dpAll_snoc h h2)
theorem dpAll_len {K : Frag} {H : Hp} : ∀ {vs : List V} {ds : List PyData}, DpAll K H vs ds → vs.length = ds.length
  | _, _, .nil => rfl
  | _, _, .cons _ h2 => by rw [List.length_cons, List.length_cons, dpAll_len h2]
/-- a pair of ints -/
def pyP (p : Nat × Int) : PyData := .tuple [.int p.1, .int p.2]
theorem can_pyP (p : Nat × Int) : (pyP p).canLay0 = true := rfl
theorem dep_pyP (p : Nat × Int) : (pyP p).depth ≤ 1 := Nat.le_refl 1
theorem dp_pyP {K : Frag} {H : Hp} {a : Addr} {p : Nat × Int} (h : SqT K H a [.int p.1, .int p.2]) : Dp K H (.ref a) (pyP p) := .tup h (.cons (.int _) (.cons (.int _) .nil))
/-- != by data that is not the same -/
theorem a_neD' {K : Frag} {H : Hp} {x y : V} {Q : VK} {d e : PyData} (hx : Dp K H x d) (hy : Dp K H y e) (h1 : d.canLay0 = true) (h2 : d.depth ≤ 64) (h3 : e.canLay0 = true) (h4 : e.depth ≤ 64) (n : PyData.eqv d e = false) (h : Q (.bl true) H) : rNeD K x y H Q :=
  ⟨d, e, hx, hy, shaped_of h1 h2, shaped_of h3 h4, by rw [n]; exact h⟩
theorem a_eqD' {K : Frag} {H : Hp} {x y : V} {Q : VK} {d e : PyData} (hx : Dp K H x d) (hy : Dp K H y e) (h1 : d.canLay0 = true) (h2 : d.depth ≤ 64) (h3 : e.canLay0 = true) (h4 : e.depth ≤ 64) (n : PyData.eqv d e = false) (h : Q (.bl false) H) : rEqD K x y H Q :=
  ⟨d, e, hx, hy, shaped_of h1 h2, shaped_of h3 h4, by rw [n]; exact h⟩
end R

/-! ## enumerate(a tuple) -/
namespace PySem
namespace EnT
open PySem.W PySem.Calls PyProof.Rows
set_option maxHeartbeats 4000000
theorem meets_new1 {src : Value} {itO : Obj} {Hx : Heap → Prop} (B : Begins src itO Hx) :
    Meets (Builtin.«enumerate.__new__» ⟨[.type "enumerate", src], []⟩) (fun _ R s => Hx s.heap ∧
      R (.ok (.ret (.ref (s.heap.push itO).objs.size))) { s with heap := (s.heap.push itO).push { cls := .type "enumerate", data := .fields #[.none, .bool false, .ref s.heap.objs.size, rawInt 0, .none, .none] } }) := by
  refine .of_wp fun prog w A R s h => ?_
  obtain ⟨hp0, gn, dr, tks, osx⟩ := s
  obtain ⟨hH, hR⟩ := h
  have hsub := sub_enumerate
  have stp : ∀ {A' : Around} {E : Value → Shared → Prop} {Q : Value → Shared → Prop}, Q (.ref hp0.objs.size) ⟨hp0.push itO, gn, dr, tks, osx⟩ →
      wpAny (model prog w) A' (pyIter src) Q E ⟨hp0, gn, dr, tks, osx⟩ := fun q => B.iter prog w _ _ ⟨hp0, gn, dr, tks, osx⟩ _ hH q
  wp_walk using stp
  refine wpAny_stack_any fun st => wpAny_pure ?_
  split
  · rename_i c _ _ _ _ _
    cases (c == Value.type "enumerate") <;> (wp_walk using stp; exact ⟨_, rfl, hR⟩)
  · wp_walk using stp
    exact ⟨_, rfl, hR⟩
theorem call_new1 {prog : Program} {w : World} {A : Around} {E : Value → Shared → Prop} {s : Shared} {src : Value} {itO : Obj} {Hx : Heap → Prop} {Q : Value → Shared → Prop} (B : Begins src itO Hx) (hH : Hx s.heap)
    (h : ∀ h', IsEnum h' (s.heap.objs.size + 1) s.heap.objs.size 0 .none → h'.get? s.heap.objs.size = some itO → h'.objs.size = s.heap.objs.size + 2 →
      (∀ b o, s.heap.get? b = some o → h'.get? b = some o) → Q (.ref (s.heap.objs.size + 1)) { s with heap := h' }) :
    wpAny (model prog w) A (call (.type "enumerate") [src]) Q E s := by
  have z : (s.heap.push itO).objs.size = s.heap.objs.size + 1 := Heap.size_push ..
  refine callType_new F.called_enumerate (by decide) (F.typeCall_enumerate_1 _) (F.newCall_enumerate_1 _) (fun obj => F.args_object_init_2 obj _) F.entry_enumerate_new (meets_new1 B) ⟨hH, ?_⟩
  show _ ∧ _
  rw [z]
  have en : IsEnum ((s.heap.push itO).push { cls := .type "enumerate", data := .fields #[.none, .bool false, .ref s.heap.objs.size, rawInt 0, .none, .none] }) (s.heap.objs.size + 1) s.heap.objs.size 0 .none := by
    have q := Heap.get?_push_size (s.heap.push itO) (o := { cls := .type "enumerate", data := .fields #[.none, .bool false, .ref s.heap.objs.size, rawInt 0, .none, .none] }) rfl
    rw [z] at q
    exact q
  exact ⟨⟨_, en, rfl⟩, h _ en (Heap.get?_push_of_some _ (Heap.get?_push_size _ B.free)) (by rw [Heap.size_push, z]) fun b o x => Heap.get?_push_of_some _ (Heap.get?_push_of_some _ x)⟩
theorem end2 {prog : Program} {w : World} {A : Around} {E : Value → Shared → Prop} {s : Shared} {e it a : Addr} {i : Int} {j : Nat} {its : Array Value} {old : Value} {Q : Option Value → Shared → Prop} (hh : A.handled = none)
    (hen : IsEnum s.heap e it i old) (hti : s.heap.IsTupleIter it a j) (tp : s.heap.IsTuple a its) (hx : its[j]? = none)
    (k : ∀ h', Heap.ExtBut it s.heap h' → Q none { s with heap := h' }) : wpAny (model prog w) A (pyNext (.ref e)) Q E s := by
  have ty : s.TypeIs (.ref e) "enumerate" := ⟨_, hen, rfl⟩
  unfold pyNext
  refine wpAny_bind (wpAny_attempt (wpAny_callSpecial?_slot (name := Str.ofString "__next__") ty F.slot_enumerate_next ?_))
  refine wpAny_call_entry F.slot_enumerate_next ty F.entry_enumerate_next ?_ (F.args_enumerate_next_1 _)
  show wpAny _ _ (field (.ref e) 2 >>= _) _ _ _
  refine wpAny_bind (wpAny_field hen rfl (x := .ref it) rfl (wpAny_bind (wpAny_nextOf_tuple_end hh hti tp hx fun h' x eb hxo => ?_)))
  obtain ⟨ob, hob, hcl⟩ := hxo
  exact wpAny_bind (wpAny_isInstance (T := "StopIteration") (b := true) ⟨ob, hob, hcl⟩ isSubtype_stop (wpAny_pure (k _ eb)))
end EnT
end PySem
namespace R
open PySem PySem.Spec PyProof.Rows L2
open PySem.W (Frag)
/-- the tuple at a, each item in a new pair -/
def IteT (K : Frag) (a : Addr) : It :=
  ⟨fun i H => ∃ (xs : List V) (x : V), SqT K H a xs ∧ xs[i]? = some x,
   fun i H v H' => ∃ T x, v = .ref T ∧ H T = none ∧ H' = upd H T (.tup [.int (i : Nat), x]) ∧ ∀ xs, SqT K H a xs → xs[i]? = some x,
   fun i H => ∃ xs : List V, SqT K H a xs ∧ xs.length ≤ i⟩
theorem apart_ti {h : Heap} {a it : Addr} {i : Nat} {its : Array Value} (t : h.IsTuple a its) (j : h.IsTupleIter it a i) : a ≠ it := by
  intro z
  obtain ⟨o1, q1, c1, _⟩ := t
  obtain ⟨o2, q2, c2, _⟩ := j
  rw [z, q2] at q1
  cases q1
  rw [c1] at c2
  exact absurd c2 (by decide)
theorem apart_te {h : Heap} {a e it : Addr} {i : Int} {old : Value} {its : Array Value} (t : h.IsTuple a its) (j : IsEnum h e it i old) : e ≠ a := by
  intro z
  obtain ⟨o1, q1, c1, _⟩ := t
  have q2 : h.get? e = some _ := j
  rw [← z, q2] at q1
  cases q1
  exact absurd (show Value.type "enumerate" = Value.type "tuple" from c1) (by decide)
theorem turn_enumT {P : Program} {w : World} {K : Frag} {elts : List Expr} {kk : Nat} {tpos : Pos} (a e it : Addr) :
    Turn P w K (.Tuple elts kk tpos) (IteT K a) [e, it] e (fun i h => (∃ old, IsEnum h e it ((i : Nat) : Int) old) ∧ h.IsTupleIter it a i ∧ e ≠ it) where
  mem := List.mem_cons_self
  obj := fun i h st b hb => by
    obtain ⟨⟨old, hen⟩, ⟨ob, hob, hcl, hdt⟩, _⟩ := st
    rcases List.mem_cons.mp hb with rfl | hb
    · exact ⟨_, hen, fun v q => nomatch q⟩
    · have z : b = it := by simpa using hb
      subst z
      exact ⟨ob, hob, fun v q => by rw [hdt] at q; cases q⟩
  keep := fun i h h' st k => by
    obtain ⟨⟨old, hen⟩, hti, ne⟩ := st
    exact ⟨⟨old, k e (by simp) _ hen⟩, hti.at fun o q => k it (by simp) o q, ne⟩
  item := by
    intro X hP hw hK hc i pins s σ H E I hf st hg
    subst hP hw hK
    obtain ⟨⟨old, hen⟩, hti, ne⟩ := st
    obtain ⟨xs, x, sq, hx⟩ := hg
    obtain ⟨its, rv, tp, _⟩ := I.tuple sq
    obtain ⟨u0, hu0, ru0⟩ := rv.get hx
    have tp' : s.heap.IsTuple a its.toArray := tp
    have n1 := apart_ti tp' hti
    have n2 := apart_te tp' hen
    have le1 : e < s.heap.objs.size := Heap.lt_size hen
    have le2 : it < s.heap.objs.size := by
      obtain ⟨_, q, _⟩ := hti
      exact Heap.lt_size q
    have hi : i < its.toArray.size := by
      obtain ⟨q, _⟩ := List.getElem?_eq_some_iff.mp hu0
      simpa using q
    refine wpAny_pyNext_enum_itemD (Draws.tuple (A := X.A.in1) (show X.A.in1.handled = none from I.ok.hd hc) it a n1 its.toArray) hen ⟨hti, tp'⟩ hi ne (by simp [ne, n2]) fun v h' tk hv hout hst hT _ hk => ?_
    have ev : v = u0 := by
      have q : its.toArray[i]? = some u0 := by simpa using hu0
      rw [q] at hv
      exact (Option.some.inj hv).symm
    subst ev
    refine ⟨_, rfl, wpAny_letOwnedTupleGo_enum (s := { s with heap := h', toks := tk + 1 }) hout fun h'' hen' sb => ?_⟩
    have hT2 : h''.get? s.heap.objs.size = some { cls := .type "tuple", data := .seq #[.int i tk, v] } := (sb.2 _ (Nat.ne_of_gt le1)).trans hT
    have kp : ∀ b ob, b ∉ [e, it] → s.heap.get? b = some ob → h''.get? b = some ob := fun b ob hb q => by
      have q1 : b ≠ e := fun z => hb (by simp [z])
      have q2 : b ≠ it := fun z => hb (by simp [z])
      exact (sb.2 b q1).trans (hk b ob q1 q2 q)
    have nw : ObjOk X.prog X.w (upd H s.heap.objs.size (.tup [.int (i : Nat), x])) h'' s.heap.objs.size (.tup [.int (i : Nat), x]) :=
      ⟨(by show 2 ≤ sizeLine; decide), [.int i tk, v], .cons ⟨_, rfl⟩ (.cons ru0 .nil), ⟨_, hT2, rfl, _, rfl⟩⟩
    have J : Inv X pins σ (upd H s.heap.objs.size (.tup [.int (i : Nat), x])) { s with heap := h'', toks := tk + 1 } := I.turnedNew (ch := [e, it]) kp hf (Nat.le_refl _) nw
    refine ⟨.ref s.heap.objs.size, _, J, rfl, ⟨_, x, rfl, I.hok.fresh (Nat.le_refl _), rfl, fun ys hy => by rw [I.tuple_inj hy sq]; exact hx⟩, ⟨⟨v, ?_⟩, hst.1.at fun o q => (sb.2 it (Ne.symm ne)).trans q, ne⟩, fun b hb => ?_⟩
    · have e1 : ((i + 1 : Nat) : Int) = (i : Int) + 1 := by omega
      rw [e1]
      exact hen'
    · have lb : b < s.heap.objs.size := by
        rcases List.mem_cons.mp hb with z | hb
        · rw [z]; exact le1
        · have z : b = it := by simpa using hb
          rw [z]; exact le2
      rw [upd_ne (Nat.ne_of_lt lb)]
      exact (hf b hb).1
  done := by
    intro X hP hw hK hc i pins s σ H E I hf st hg
    subst hP hw hK
    obtain ⟨⟨old, hen⟩, hti, ne⟩ := st
    obtain ⟨xs, sq, hx⟩ := hg
    obtain ⟨its, rv, tp, _⟩ := I.tuple sq
    have tp' : s.heap.IsTuple a its.toArray := tp
    obtain ⟨f0, f1, f2, f3, f4, f5⟩ := hf it (by simp)
    have hl := rv.length
    refine EnT.end2 (I.ok.hd hc) hen hti tp' (by simp; omega) fun h' eb => ?_
    exact ⟨rfl, I.turned (t' := s.toks) (fun b o hb q => eb b o hb q) f0 f1 f3 f4 f5⟩
  self := fun A i s Q E st h => by
    obtain ⟨⟨_, hen⟩, _⟩ := st
    exact wpAny_pyIter_enum hen h
def iEnumT (K : Frag) (ta : TA) : TI := fun σ H RR => ta σ H fun vs H1 => ∃ a xs, vs = [.ref a] ∧ SqT K H1 a xs ∧ RR (IteT K a) H1
theorem pi_enumT {X : Cx} {e : Expr} {ta : TA} {p pos tpos : Pos} {elts : List Expr} {kk : Nat} (hg : Gl X "enumerate") (hm : X.mg "enumerate" = none) (ha : PA X [e] ta) (hs : starEach [e] X.env = [(false, eval e X.env)] := by rfl) :
    PI X (.Tuple elts kk tpos) (.Call (.Name "enumerate" p) [e] [] pos) (iEnumT X.K ta) := by
  refine ⟨fun pins s σ H RR I h => ?_⟩
  refine Call_ (ld_blt I hg hm boot_enumerate (PyProof.Rows.callWith_type1 (thn (ha.run pos pins s σ H _ I h) fun us s1 ⟨vs, H1, I1, r1, q1⟩ => ?_) hs rfl))
  obtain ⟨a, xs, ev, sq, q⟩ := q1
  subst ev
  obtain ⟨u, hu, ru⟩ := vals1 r1
  subst hu
  cases ru
  obtain ⟨its, rv, tp, _⟩ := I1.tuple sq
  have tp' : s1.heap.IsTuple a its.toArray := tp
  refine EnT.call_new1 (begins_tuple a its.toArray) tp' fun h' hen hit _ hk => wpAny_pyIter_enum hen ?_
  have J : Inv X pins σ H1 { s1 with heap := h' } := I1.kept (t' := s1.toks) hk
  refine ⟨s1.heap.objs.size + 1, [s1.heap.objs.size + 1, s1.heap.objs.size], _, _, H1, rfl, J, turn_enumT a (s1.heap.objs.size + 1) s1.heap.objs.size, ⟨⟨.none, hen⟩, ⟨_, hit, rfl, rfl⟩, Nat.succ_ne_self _⟩, fun b hb => ?_, q⟩
  have le : s1.heap.objs.size ≤ b := by
    rcases List.mem_cons.mp hb with z | hb
    · rw [z]; exact Nat.le_succ _
    · have z : b = s1.heap.objs.size := by simpa using hb
      rw [z]; exact Nat.le_refl _
  exact I1.fpOk le (I1.hok.fresh le)
theorem walk_enumT {K : Frag} {a : Addr} {xs : List V} : Walk (IteT K a) xs.length (fun H => SqT K H a xs) (YPair (fun i => some (.int (i : Nat))) (fun i => xs[i]?)) := by
  refine ⟨fun i _ hi q => ⟨xs, xs[i], q, by simp [hi]⟩, fun _ q => ⟨xs, q, Nat.le_refl _⟩, fun i H v H' _ q y => ?_⟩
  obtain ⟨T, x, h1, h2, h3, h4⟩ := y
  exact ⟨T, .int (i : Nat), x, h1, h2, h3, rfl, h4 xs q⟩
end R
namespace R
open PySem PySem.Spec PyProof.Rows L2
open PySem.W (Frag)
theorem a_enumT {K : Frag} {tr : TA} {σ : L2.St} {H : Hp} {RR : It → Hp → Prop} (h : tr σ H fun vs H1 => ∃ a xs, vs = [.ref a] ∧ SqT K H1 a xs ∧ RR (IteT K a) H1) : iEnumT K tr σ H RR := h
end R

/-! ## fields of an own instance -/
namespace R
open PySem PySem.Spec PyProof.Rows L2
open PySem.W (Frag)
def rFld (K : Frag) (f : Str) : V → Hp → VK → Prop := fun x H Q => ∃ a C dx fs v, x = .ref a ∧ H a = some (.ins C dx fs) ∧ Cls K C ∧ NoAttr K C f ∧ fs.lookup f = some v ∧ Q v H
def rSetF (K : Frag) (f : Str) : V → V → Hp → (Hp → Prop) → Prop := fun x y H P => ∃ a C dx fs, x = .ref a ∧ H a = some (.ins C dx fs) ∧ Cls K C ∧ NoAttr K C f ∧ fs.length < 1000 ∧ P (upd H a (.ins C dx (putF f y fs)))
def NewI (C : Addr) (sp : Sp) (dvs : List V) (E : XK) (vs : List V) (H : Hp) (Q : VK) : Prop := ∀ x dx, H x = none → H dx = none → dx ≠ x →
  sp (.ref x :: (vs ++ dvs)) (upd (upd H dx (.own x)) x (.ins C dx [])) (fun v H2 => v = .non ∧ Q (.ref x) H2) E
section
variable {K : Frag} {f g : Str} {ta tv : TE} {σ : L2.St} {H B : Hp} {Q : VK} {D : Ends} {Lw : List (Addr × HO)} {a C dx : Addr} {fs : List (Str × V)} {v y : V}
theorem a_fld (h : ta σ H fun x H1 => rFld K f x H1 Q) : tFld K ta f σ H Q := h
theorem a_sfld (h : tv σ H fun y H1 => ta σ H1 fun x H2 => rSetF K f x y H2 fun H3 => D.nx σ H3) : sFld K ta tv f D σ H := h
theorem a_getF (h : H a = some (.ins C dx fs)) (cl : Cls K C) (n : NoAttr K C f) (hl : fs.lookup f = some v) (q : Q v H) : rFld K f (.ref a) H Q := ⟨a, C, dx, fs, v, rfl, h, cl, n, hl, q⟩
theorem a_setF {P : Hp → Prop} (O : Own B Lw H) (i : Nat) (h : Lw[i]? = some (a, .ins C dx fs)) (cl : Cls K C) (n : NoAttr K C f) (hl : fs.length < 1000) (q : ∀ H', Own B (Lw.set i (a, .ins C dx (putF f y fs))) H' → P H') : rSetF K f (.ref a) y H P :=
  ⟨a, C, dx, fs, rfl, O.get i h, cl, n, hl, q _ (O.put i h)⟩
theorem lk_eq : ((f, v) :: fs).lookup f = some v := by
  have hb : (f == f) = true := beq_iff_eq.mpr rfl
  simp only [List.lookup, hb]
theorem lk_ne (h : ¬ f = g) : ((g, v) :: fs).lookup f = fs.lookup f := by
  have hb : (f == g) = false := beq_eq_false_iff_ne.mpr h
  simp only [List.lookup, hb]
theorem put_ne (h : ¬ g = f) : putF f y ((g, v) :: fs) = (g, v) :: putF f y fs := by
  show (if g = f then (g, y) :: fs else (g, v) :: putF f y fs) = _
  rw [if_neg h]
theorem put_eq : putF f y ((f, v) :: fs) = (f, y) :: fs := by
  show (if f = f then (f, y) :: fs else (f, v) :: putF f y fs) = _
  rw [if_pos rfl]
theorem put_nil : putF f y [] = [(f, y)] := rfl
/-- a new instance -/
theorem a_make {sp : Sp} {dvs : List V} {E : XK} {t : TA} (h : t σ H fun vs H1 => NewI C sp dvs E vs H1 Q) : tMake C sp dvs E t σ H Q := h
end
end R

namespace R
open PySem PySem.Spec PyProof.Rows L2
open PySem.W (Frag)
variable {K : Frag} {v : V} {σ : L2.St} {H : Hp}
theorem a_glst {n : Nat} {gs : TGs} {p : Addr} {xs : List V} {Qs : L2.St → Hp → Prop} (hs : SqL K H p xs) (hl : xs.length = n) (h : gs xs σ H Qs) : gLst K n gs (.ref p) σ H Qs := ⟨p, xs, rfl, hs, hl, h⟩
theorem pg_lstK {X : Cx} {pos : Pos} {es : List Expr} {k : Nat} {t : TGs} {n : Nat} (hc : X.calm = true) (h : PGs X es t) (hK : X.K = K := by rfl) (hn : (assignEach es X.env).length = n := by rfl) (hst : (assignEach es X.env).findIdx? (·.1) = none := by rfl) : PG X (.Tuple es k pos) (gLst K n t) := by
  subst hK; exact pg_lst hc h hn hst
end R

/-! ## the numbers behind, and the first that fail -/
namespace R
open PySem PySem.Spec PyProof.Rows L2
open PySem.W (Frag)
/-- what a trick makes of n -/
def beh (b k t n : Int) : Int := n / b ^ k.toNat + t * (n % b ^ k.toNat)
/-- a number or None -/
def optV : Option Int → V
  | none => .non
  | some n => .int n
/-- the least number below i with p -/
def fstB (p : Int → Bool) (i : Nat) : Option Int := (List.range i).findSome? fun (j : Nat) => if p j = true then some (j : Int) else none
theorem fstB_zero {p : Int → Bool} : fstB p 0 = none := rfl
theorem fstB_step {p : Int → Bool} {i : Nat} : fstB p (i + 1) = (fstB p i).or (if p i = true then some (i : Int) else none) := by
  unfold fstB
  rw [List.range_succ, List.findSome?_append]
  congr 1
  cases c : p (i : Int) <;> simp [List.findSome?, c]
theorem fstB_yes {p : Int → Bool} {i : Nat} (h : fstB p i = none) (e : p i = true) : fstB p (i + 1) = some (i : Int) := by rw [fstB_step, h, if_pos e]; rfl
theorem fstB_no {p : Int → Bool} {i : Nat} (h : fstB p i = none) (e : p i = false) : fstB p (i + 1) = none := by rw [fstB_step, h, e]; rfl
theorem fstB_old {p : Int → Bool} {i : Nat} {x : Int} (h : fstB p i = some x) : fstB p (i + 1) = some x := by rw [fstB_step, h]; rfl
theorem fstB_hit {p : Int → Bool} {i : Nat} (h : fstB p i = none) (e : p i = true) : ∀ n : Nat, i < n → fstB p n = some (i : Int) := find_hit h (if_pos e)
theorem fstB_none {p : Int → Bool} {n : Nat} (h : fstB p n = none) {x : Int} (h0 : 0 ≤ x) (h1 : x < n) : p x = false := by
  unfold fstB at h
  rw [List.findSome?_eq_none_iff] at h
  have q := h x.toNat (List.mem_range.mpr (by omega))
  have e : ((x.toNat : Nat) : Int) = x := by omega
  rw [e] at q
  cases c : p x with
  | false => rfl
  | true => rw [if_pos c] at q; cases q
theorem fstB_some {p : Int → Bool} {n : Nat} {x : Int} (h : fstB p n = some x) : 0 ≤ x ∧ x < n ∧ p x = true := by
  unfold fstB at h
  obtain ⟨i, hi, e⟩ := List.exists_of_findSome?_eq_some h
  have h1 := List.mem_range.mp hi
  split at e
  · rename_i c
    cases e
    exact ⟨by omega, by omega, c⟩
  · cases e
/-- no rest is kept; a multiple and none -/
def unl (b k t d n : Int) : Bool := !decide (n % d = beh b k t n % d)
def fls (b k t d n : Int) : Bool := decide (n % d = 0) != decide (beh b k t n % d = 0)
theorem beh_turn {b k t d q m : Int} (hB : 0 < b ^ k.toNat) : beh b k t (q * (d * b ^ k.toNat) + m) = q * d + beh b k t m := by
  unfold beh
  generalize b ^ k.toNat = B at *
  have e : q * (d * B) + m = m + B * (q * d) := by
    rw [← Int.mul_assoc, Int.mul_comm (q * d) B]; omega
  rw [e, Int.add_mul_ediv_left _ _ (by omega), Int.add_mul_emod_self_left]
  omega
theorem turn_of {b k t d : Int} (hB : 0 < b ^ k.toNat) (hd : 0 < d) (n : Int) : ∃ m : Int, 0 ≤ m ∧ m < d * b ^ k.toNat ∧ n % d = m % d ∧ beh b k t n % d = beh b k t m % d := by
  have h : 0 < d * b ^ k.toNat := Int.mul_pos hd hB
  refine ⟨n % (d * b ^ k.toNat), Int.emod_nonneg _ (by omega), Int.emod_lt_of_pos _ h, ?_, ?_⟩
  · rw [Int.emod_emod_of_dvd _ (Int.dvd_mul_right d _)]
  · have e := Int.mul_ediv_add_emod n (d * b ^ k.toNat)
    rw [Int.mul_comm] at e
    have q := beh_turn (t := t) (d := d) (q := n / (d * b ^ k.toNat)) (m := n % (d * b ^ k.toNat)) hB
    rw [e] at q
    rw [q, Int.add_comm, Int.add_mul_emod_self_right]
theorem unl_all {b k t d : Int} (hB : 0 < b ^ k.toNat) (hd : 0 < d) (h : fstB (unl b k t d) (d * b ^ k.toNat).toNat = none) (n : Int) : unl b k t d n = false := by
  obtain ⟨m, h0, h1, e1, e2⟩ := turn_of (t := t) hB hd n
  have q := fstB_none h h0 (by omega)
  unfold unl at *
  rw [e1, e2]; exact q
theorem fls_all {b k t d : Int} (hB : 0 < b ^ k.toNat) (hd : 0 < d) (h : fstB (fls b k t d) (d * b ^ k.toNat).toNat = none) (n : Int) : fls b k t d n = false := by
  obtain ⟨m, h0, h1, e1, e2⟩ := turn_of (t := t) hB hd n
  have q := fstB_none h h0 (by omega)
  unfold fls at *
  rw [e1, e2]; exact q
section
variable {H : Hp} {Q : VK}
theorem a_neB {p q : Bool} (h : Q (.bl (p != q)) H) : rNe (.bl p) (.bl q) H Q := ⟨rfl, by rw [dec_bl]; exact h⟩
theorem a_eqB {p q : Bool} (h : Q (.bl (p == q)) H) : rEq (.bl p) (.bl q) H Q := ⟨rfl, by rw [dec_bl]; exact h⟩
theorem a_isO1 (h : Q (.bl true) H) : rIsN (optV none) .non H Q := a_isN1 h
theorem a_isO0 {n : Int} (h : Q (.bl false) H) : rIsN (optV (some n)) .non H Q := a_isN0 (fun z => by cases z) h
theorem a_notO1 (h : Q (.bl false) H) : rNotN (optV none) .non H Q := a_notN1 h
theorem a_notO0 {n : Int} (h : Q (.bl true) H) : rNotN (optV (some n)) .non H Q := a_notN0 (fun z => by cases z) h
theorem a_neO {o : Option Int} (h : Q (.bl false) H) : rNe (optV o) (optV o) H Q := by
  refine ⟨?_, ?_⟩
  · cases o <;> rfl
  · rw [decide_eq_true rfl]; exact h
end
end R
namespace R
open PySem PySem.Spec PyProof.Rows L2
theorem a_par3 {i j l : Nat} {tr : TA} {D : Ends} {σ : L2.St} {H : Hp} (h : tr σ H fun vs H1 => ∃ u v w, vs = [u, v, w] ∧ D.nx (((σ.set i (some u)).set j (some v)).set l (some w)) H1) : tPar3 i j l tr D σ H := h
theorem a_par33 {x y z : V} {A : V → V → V → Prop} (h : A x y z) : ∃ u v w, [x, y, z] = [u, v, w] ∧ A u v w := ⟨x, y, z, rfl, h⟩
end R

/-! ## rows of tricks: a list or a tuple -/
namespace R
open PySem PySem.Spec PyProof.Rows L2
open PySem.W (Frag)
def EAt (H : Hp) (a : Addr) (xs : List V) : Prop := H a = some (.lst xs) ∨ H a = some (.tup xs)
theorem EAt.up {B H : Hp} {a : Addr} {xs : List V} (s : Same B H) (h : EAt B a xs) : EAt H a xs := h.imp (s _ _) (s _ _)
/-- two rules for one walk -/
def iEi (w1 w2 : TI) : TI := fun σ H RR => w1 σ H RR ∨ w2 σ H RR
theorem pi_either {X : Cx} {tg it : Expr} {w1 w2 : TI} (h1 : PI X tg it w1) (h2 : PI X tg it w2) : PI X tg it (iEi w1 w2) :=
  ⟨fun pins s σ H RR I h => h.elim (h1.run pins s σ H RR I) (h2.run pins s σ H RR I)⟩
section
variable {K : Frag} {B H : Hp} {a : Addr} {xs : List V} {v : Nat} {σ : L2.St} {g : TG} {tb : TS} {D : Ends} {Q : VK}
theorem for_E (hB : EAt B a xs) (hv : σ[v]? = some (some (.ref a))) (Pv : Nat → L2.St → Hp → Prop) (h0 : Pv 0 σ H) (hS : ∀ i σ H, Pv i σ H → Same B H)
    (hs : ∀ i x σ H, xs[i]? = some x → Pv i σ H → g x σ H fun σ2 H2 => tb { D with nx := Pv (i + 1), ct := Pv (i + 1), bk := D.nx } σ2 H2) (hd : ∀ σ H, Pv xs.length σ H → D.nx σ H) : tFor (iEi (iList K (tVar v)) (iTup K (tVar v))) g tb D σ H := by
  refine a_for ?_
  rcases hB with hB | hB
  · have sq : ∀ i σ H, Pv i σ H → SqL K H a xs := fun i σ H p => SqL.of (hS i σ H p _ _ hB)
    refine .inl (a_iL (a_var hv ⟨a, rfl, ⟨xs, sq _ _ _ h0⟩, ?_⟩))
    exact for_it walk_list Pv h0 (fun i σ H _ p => sq i σ H p) (fun i x σ H H' hi p y => by obtain ⟨rfl, y⟩ := y; exact hs i x σ _ y p) hd
  · have sq : ∀ i σ H, Pv i σ H → SqT K H a xs := fun i σ H p => SqT.of (hS i σ H p _ _ hB)
    refine .inr (a_iT (a_var hv ⟨a, rfl, ⟨xs, sq _ _ _ h0⟩, ?_⟩))
    exact for_it walk_tup Pv h0 (fun i σ H _ p => sq i σ H p) (fun i x σ H H' hi p y => by obtain ⟨rfl, y⟩ := y; exact hs i x σ _ y p) hd
theorem for_enumE (hB : EAt B a xs) (hv : σ[v]? = some (some (.ref a))) (Pv : Nat → L2.St → Hp → Prop) (h0 : Pv 0 σ H) (hS : ∀ i σ H, Pv i σ H → Same B H)
    (hs : ∀ i x T σ H, xs[i]? = some x → Pv i σ H → H T = none → g (.ref T) σ (upd H T (.tup [.int (i : Nat), x])) fun σ2 H2 => tb { D with nx := Pv (i + 1), ct := Pv (i + 1), bk := D.nx } σ2 H2) (hd : ∀ σ H, Pv xs.length σ H → D.nx σ H) : tFor (iEi (iEnum K (tCons (tVar v) tNil)) (iEnumT K (tCons (tVar v) tNil))) g tb D σ H := by
  refine a_for ?_
  rcases hB with hB | hB
  · have sq : ∀ i σ H, Pv i σ H → SqL K H a xs := fun i σ H p => SqL.of (hS i σ H p _ _ hB)
    refine .inl (a_enum (a_cons (a_var hv (a_nil ⟨a, xs, rfl, sq _ _ _ h0, ?_⟩))))
    exact for_it walk_enum Pv h0 (fun i σ H _ p => sq i σ H p) (fun i x σ H H' hi p y => by
      obtain ⟨T, u, w, rfl, hT, rfl, e1, e2⟩ := y
      cases e1
      exact hs i w T σ H e2 p hT) hd
  · have sq : ∀ i σ H, Pv i σ H → SqT K H a xs := fun i σ H p => SqT.of (hS i σ H p _ _ hB)
    refine .inr (a_enumT (a_cons (a_var hv (a_nil ⟨a, xs, rfl, sq _ _ _ h0, ?_⟩))))
    exact for_it walk_enumT Pv h0 (fun i σ H _ p => sq i σ H p) (fun i x σ H H' hi p y => by
      obtain ⟨T, u, w, rfl, hT, rfl, e1, e2⟩ := y
      cases e1
      exact hs i w T σ H e2 p hT) hd
theorem a_lenE (h : EAt H a xs) (q : Q (.int xs.length) H) : rLen K [.ref a] H Q := ⟨a, xs, rfl, h.imp SqL.of SqT.of, q⟩
theorem a_isiE {tp : Addr} (h : EAt H a xs) (ht : H tp = some (.tup [.ty "list", .ty "tuple"])) (q : Q (.bl true) H) : rIsiT K [.ref a, .ref tp] H Q := by
  rcases h with h | h
  · exact ⟨_, tp, _, .type "list", [.type "list", .type "tuple"], true, rfl, ht, .cons (.ty _) (.cons (.ty _) .nil), .base (.lst h), kitAny_cons (b := true) (kit_ty (by decide +kernel)) (fun z => by cases z) (fun _ => rfl), q⟩
  · exact ⟨_, tp, _, .type "tuple", [.type "list", .type "tuple"], true, rfl, ht, .cons (.ty _) (.cons (.ty _) .nil), .base (.tup h), kitAny_cons (b := false) (kit_ty (by decide +kernel)) (fun _ => kitAny_cons (b := true) (kit_ty (by decide +kernel)) (fun z => by cases z) (fun _ => rfl)) (fun z => by cases z), q⟩
end
/-! the plain side: tricks one behind the other -/
abbrev Tr := Int × Int × Int
def TrOk (x : Tr) : Prop := (2 ≤ x.1 ∧ x.1 ≤ 16) ∧ (1 ≤ x.2.1 ∧ x.2.1 ≤ 2) ∧ -100 ≤ x.2.2 ∧ x.2.2 ≤ 100
def behT (x : Tr) (n : Int) : Int := beh x.1 x.2.1 x.2.2 n
def blk (x : Tr) : Int := x.1 ^ x.2.1.toNat
def behA : List Tr → Int → Int
  | [], n => n
  | x :: l, n => behA l (behT x n)
def wideA : List Tr → Int
  | [] => 1
  | x :: l => blk x * wideA l
theorem behA_snoc (x : Tr) : ∀ (l : List Tr) (n : Int), behA (l ++ [x]) n = behT x (behA l n)
  | [], _ => rfl
  | y :: l, n => behA_snoc x l (behT y n)
theorem wideA_snoc (x : Tr) : ∀ l : List Tr, wideA (l ++ [x]) = wideA l * blk x
  | [] => by show blk x * 1 = 1 * blk x; rw [Int.mul_one, Int.one_mul]
  | y :: l => by
    show blk y * wideA (l ++ [x]) = blk y * wideA l * blk x
    rw [wideA_snoc x l, Int.mul_assoc]
theorem behA_take {l : List Tr} {i : Nat} (h : i < l.length) (n : Int) : behA (l.take (i + 1)) n = behT l[i] (behA (l.take i) n) := by
  rw [List.take_succ_eq_append_getElem h, behA_snoc]
theorem wideA_take {l : List Tr} {i : Nat} (h : i < l.length) : wideA (l.take (i + 1)) = wideA (l.take i) * blk l[i] := by
  rw [List.take_succ_eq_append_getElem h, wideA_snoc]
theorem blk_pos {x : Tr} (h : TrOk x) : 2 ≤ blk x := by
  obtain ⟨h1, h2, _⟩ := h
  unfold blk
  have e : x.2.1 = 1 ∨ x.2.1 = 2 := by omega
  rcases e with e | e
  · rw [e]
    have z : x.1 ^ (1 : Int).toNat = x.1 := by rw [show (1 : Int).toNat = 1 from rfl, Int.pow_succ, Int.pow_zero, Int.one_mul]
    rw [z]; omega
  · rw [e]
    have z : x.1 ^ (2 : Int).toNat = x.1 * x.1 := by rw [show (2 : Int).toNat = 2 from rfl, Int.pow_succ, Int.pow_succ, Int.pow_zero, Int.one_mul]
    rw [z]
    have q : x.1 * 2 ≤ x.1 * x.1 := Int.mul_le_mul_of_nonneg_left h1.1 (by omega)
    omega
theorem wideA_pos : ∀ {l : List Tr}, (∀ x ∈ l, TrOk x) → 0 < wideA l
  | [], _ => by show (0 : Int) < 1; omega
  | x :: l, h => Int.mul_pos (by have := blk_pos (h x List.mem_cons_self); omega) (wideA_pos fun y hy => h y (List.mem_cons_of_mem _ hy))
def unlA (l : List Tr) (d n : Int) : Bool := !decide (n % d = behA l n % d)
def flsA (l : List Tr) (d n : Int) : Bool := decide (n % d = 0) != decide (behA l n % d = 0)
theorem behT_add {x : Tr} (h : TrOk x) (n m : Int) : behT x (n + m * blk x) = behT x n + m := by
  have hb := blk_pos h
  unfold behT beh
  unfold blk at *
  generalize x.1 ^ x.2.1.toNat = B at *
  rw [Int.add_mul_ediv_right _ _ (by omega), Int.add_mul_emod_self_right]
  omega
theorem behA_add : ∀ {l : List Tr}, (∀ x ∈ l, TrOk x) → ∀ n m : Int, behA l (n + m * wideA l) = behA l n + m
  | [], _, n, m => by show n + m * 1 = n + m; rw [Int.mul_one]
  | x :: l, h, n, m => by
    show behA l (behT x (n + m * (blk x * wideA l))) = behA l (behT x n) + m
    rw [← Int.mul_assoc, Int.mul_comm m (blk x), Int.mul_assoc, Int.mul_comm (blk x), behT_add (h x List.mem_cons_self)]
    exact behA_add (fun y hy => h y (List.mem_cons_of_mem _ hy)) _ _
theorem turnA {l : List Tr} (h : ∀ x ∈ l, TrOk x) {d : Int} (hd : 0 < d) (n : Int) : ∃ m : Int, 0 ≤ m ∧ m < d * wideA l ∧ n % d = m % d ∧ behA l n % d = behA l m % d := by
  have hw := Int.mul_pos hd (wideA_pos h)
  refine ⟨n % (d * wideA l), Int.emod_nonneg _ (by omega), Int.emod_lt_of_pos _ hw, ?_, ?_⟩
  · rw [Int.emod_emod_of_dvd _ (Int.dvd_mul_right d _)]
  · have e := Int.mul_ediv_add_emod n (d * wideA l)
    have q := behA_add h (n % (d * wideA l)) (d * (n / (d * wideA l)))
    have z : n % (d * wideA l) + d * (n / (d * wideA l)) * wideA l = n := by
      rw [Int.mul_assoc, Int.mul_comm (n / (d * wideA l)), ← Int.mul_assoc]; omega
    rw [z] at q
    rw [q, Int.add_mul_emod_self_left]
theorem unlA_all {l : List Tr} (h : ∀ x ∈ l, TrOk x) {d : Int} (hd : 0 < d) (e : fstB (unlA l d) (d * wideA l).toNat = none) (n : Int) : unlA l d n = false := by
  obtain ⟨m, h0, h1, e1, e2⟩ := turnA h hd n
  have q := fstB_none e h0 (by omega)
  unfold unlA at *
  rw [e1, e2]; exact q
theorem flsA_all {l : List Tr} (h : ∀ x ∈ l, TrOk x) {d : Int} (hd : 0 < d) (e : fstB (flsA l d) (d * wideA l).toNat = none) (n : Int) : flsA l d n = false := by
  obtain ⟨m, h0, h1, e1, e2⟩ := turnA h hd n
  have q := fstB_none e h0 (by omega)
  unfold flsA at *
  rw [e1, e2]; exact q
end R

/-! ## rows: lists of tuples of ints -/
namespace R
open PySem PySem.Spec PyProof.Rows L2
open PySem.W (Frag)
theorem snoc_get {α : Type} {xs : List α} {v x : α} {i : Nat} (h : (xs ++ [v])[i]? = some x) : (i < xs.length ∧ xs[i]? = some x) ∨ (i = xs.length ∧ x = v) := by
  by_cases c : i < xs.length
  · rw [List.getElem?_append_left c] at h
    exact .inl ⟨c, h⟩
  · rw [List.getElem?_append_right (by omega)] at h
    have z : i - xs.length = 0 := by
      by_cases z : i - xs.length = 0
      · exact z
      · rw [List.getElem?_eq_none (by rw [List.length_singleton]; omega)] at h
        cases h
    rw [z] at h
    exact .inr ⟨by omega, (Option.some.inj h).symm⟩
theorem dpAll_get {K : Frag} {H : Hp} : ∀ {xs : List V} {ds : List PyData}, xs.length = ds.length → (∀ (i : Nat) (x : V), xs[i]? = some x → ∃ d, ds[i]? = some d ∧ Dp K H x d) → DpAll K H xs ds
  | [], [], _, _ => .nil
  | [], _ :: _, h, _ => by simp at h
  | _ :: _, [], h, _ => by simp at h
  | x :: xs, d :: ds, hl, h => by
    obtain ⟨d', e, g⟩ := h 0 x rfl
    cases (show some d = some d' from e)
    exact .cons g (dpAll_get (by simpa using hl) fun i y hy => h (i + 1) y hy)
/-- the tuples of ints of a list -/
def RowsT (H : Hp) (xs : List V) (l : List (List Int)) : Prop := xs.length = l.length ∧ ∀ (i : Nat) (x : V), xs[i]? = some x → ∃ (q : Addr) (ns : List Int), l[i]? = some ns ∧ x = .ref q ∧ H q = some (.tup (ns.map V.int))
theorem RowsT.same {B H : Hp} {xs : List V} {l : List (List Int)} (s : Same B H) (h : RowsT B xs l) : RowsT H xs l := ⟨h.1, fun i x hx => by
  obtain ⟨q, ns, e1, e2, e3⟩ := h.2 i x hx
  exact ⟨q, ns, e1, e2, s _ _ e3⟩⟩
theorem RowsT.nil (H : Hp) : RowsT H [] [] := ⟨rfl, fun i x h => by simp at h⟩
theorem RowsT.snoc {H : Hp} {xs : List V} {l : List (List Int)} {q : Addr} {ns : List Int} (h : RowsT H xs l) (hq : H q = some (.tup (ns.map V.int))) : RowsT H (xs ++ [.ref q]) (l ++ [ns]) := by
  refine ⟨by rw [List.length_append, List.length_append, h.1]; rfl, fun i x hx => ?_⟩
  rcases snoc_get hx with ⟨c, hx⟩ | ⟨rfl, rfl⟩
  · obtain ⟨q', ns', e1, e2, e3⟩ := h.2 i x hx
    exact ⟨q', ns', by rw [List.getElem?_append_left (by rw [← h.1]; exact c)]; exact e1, e2, e3⟩
  · exact ⟨q, ns, by rw [h.1, List.getElem?_append_right (Nat.le_refl _), Nat.sub_self]; rfl, rfl, hq⟩
theorem RowsT.app {H : Hp} {xs ys : List V} {l m : List (List Int)} (h : RowsT H xs l) (g : RowsT H ys m) : RowsT H (xs ++ ys) (l ++ m) := by
  refine ⟨by rw [List.length_append, List.length_append, h.1, g.1], fun i x hx => ?_⟩
  by_cases c : i < xs.length
  · rw [List.getElem?_append_left c] at hx
    obtain ⟨q, ns, e1, e2, e3⟩ := h.2 i x hx
    exact ⟨q, ns, by rw [List.getElem?_append_left (by rw [← h.1]; exact c)]; exact e1, e2, e3⟩
  · rw [List.getElem?_append_right (by omega)] at hx
    obtain ⟨q, ns, e1, e2, e3⟩ := g.2 _ x hx
    exact ⟨q, ns, by rw [List.getElem?_append_right (by rw [← h.1]; omega), ← h.1]; exact e1, e2, e3⟩
theorem RowsT.at_ {H : Hp} {xs : List V} {l : List (List Int)} (h : RowsT H xs l) {i : Nat} {x : V} (hx : xs[i]? = some x) : ∃ (hl : i < l.length) (q : Addr), x = .ref q ∧ H q = some (.tup (l[i].map V.int)) := by
  obtain ⟨q, ns, e1, e2, e3⟩ := h.2 i x hx
  obtain ⟨hl, e⟩ := List.getElem?_eq_some_iff.mp e1
  exact ⟨hl, q, e2, by rw [e]; exact e3⟩
/-- as data -/
def pyR (l : List (List Int)) : PyData := .list (l.map pyT)
theorem can_pyR (l : List (List Int)) : (pyR l).canLay0 = true := canAll_map can_pyT l
theorem dep_pyR (l : List (List Int)) : (pyR l).depth ≤ 2 := by
  have h := depthAll_map (f := pyT) (n := 1) dep_pyT l
  show PyData.depthAll (l.map pyT) + 1 ≤ 2
  omega
section
variable {K : Frag} {H : Hp} {xs ys : List V} {l : List (List Int)} {a b : Addr} {Q : VK}
theorem RowsT.dps (h : RowsT H xs l) : DpAll K H xs (l.map pyT) := dpAll_get (by rw [h.1, List.length_map]) fun i x hx => by
  obtain ⟨q, ns, e1, rfl, e3⟩ := h.2 i x hx
  exact ⟨pyT ns, by rw [List.getElem?_map, e1]; rfl, dp_pyT (SqT.of e3)⟩
theorem RowsT.dp (h : RowsT H xs l) (hs : SqL K H a xs) : Dp K H (.ref a) (pyR l) := .lst hs h.dps
theorem a_eqRows (h : RowsT H xs l) (hs : SqL K H a xs) (g : RowsT H ys l) (gs : SqL K H b ys) (q : Q (.bl true) H) : rEqD K (.ref a) (.ref b) H Q := a_eqD (h.dp hs) (g.dp gs) (can_pyR l) (Nat.le_trans (dep_pyR l) (by decide)) q
theorem a_neRows (h : RowsT H xs l) (hs : SqL K H a xs) (g : RowsT H ys l) (gs : SqL K H b ys) (q : Q (.bl false) H) : rNeD K (.ref a) (.ref b) H Q := a_neD (h.dp hs) (g.dp gs) (can_pyR l) (Nat.le_trans (dep_pyR l) (by decide)) q
theorem a_isTup {p : Addr} {zs : List V} (h : H p = some (.tup zs)) (q : Q (.bl true) H) : rIsi K [.ref p, .ty "tuple"] H Q := ⟨_, _, .type "tuple", .type "tuple", true, rfl, .ty _, .base (.tup h), kit_ty (by decide +kernel), q⟩
/-- xs == [], rows -/
theorem a_eqRows0 (h : RowsT H xs l) (hs : SqL K H a xs) (gs : SqL K H b []) (q : Q (.bl l.isEmpty) H) : rEqD K (.ref a) (.ref b) H Q := by
  cases l with
  | nil => exact a_eqRows h hs (RowsT.nil H) gs q
  | cons x l => exact a_eqD' (h.dp hs) ((RowsT.nil H).dp gs) (can_pyR _) (Nat.le_trans (dep_pyR _) (by decide)) (can_pyR []) (by decide) rfl q
end
end R

/-! ## == of tuples of ints, both ways; the last item -/
namespace R
open PySem PySem.Spec PyProof.Rows L2
open PySem.W (Frag)
theorem eqvAll_ints : ∀ a b : List Int, PyData.eqvAll (a.map .int) (b.map .int) = decide (a = b)
  | [], [] => rfl
  | [], y :: b => rfl
  | x :: a, [] => rfl
  | x :: a, y :: b => by
    show ((x == y) && PyData.eqvAll (a.map .int) (b.map .int)) = _
    rw [eqvAll_ints a b]
    by_cases h1 : x = y
    · by_cases h2 : a = b
      · rw [h1, h2]; simp
      · rw [decide_eq_false h2, decide_eq_false (fun z => h2 (List.cons.inj z).2), Bool.and_false]
    · rw [decide_eq_false (fun z => h1 (List.cons.inj z).1), beq_eq_false_iff_ne.mpr h1, Bool.false_and]
theorem eqv_pyT (a b : List Int) : PyData.eqv (pyT a) (pyT b) = decide (a = b) := eqvAll_ints a b
section
variable {K : Frag} {H : Hp} {p q : Addr} {f g : List Int} {Q : VK}
theorem a_eqTT (hx : SqT K H p (f.map V.int)) (hy : SqT K H q (g.map V.int)) (h : Q (.bl (decide (f = g))) H) : rEqD K (.ref p) (.ref q) H Q :=
  ⟨pyT f, pyT g, dp_pyT hx, dp_pyT hy, shaped_of (can_pyT f) (Nat.le_trans (dep_pyT f) (by decide)), shaped_of (can_pyT g) (Nat.le_trans (dep_pyT g) (by decide)), by rw [eqv_pyT]; exact h⟩
end
theorem atI_neg1 {α : Type} (xs : List α) (x : α) : atI (xs ++ [x]) (-1) = some x := by
  unfold atI ixN
  rw [if_neg (by decide), if_pos (by rw [List.length_append, List.length_singleton]; omega)]
  show (xs ++ [x])[((-1 : Int) + ((xs ++ [x]).length : Int)).toNat]? = some x
  rw [List.length_append, List.length_singleton, show ((-1 : Int) + ((xs.length + 1 : Nat) : Int)).toNat = xs.length by omega, List.getElem?_append_right (Nat.le_refl _), Nat.sub_self]
  rfl
theorem cutV_init (xs : List V) (x : V) : cutV (xs ++ [x]) none (some (-1)) = xs := by
  unfold cutV
  rw [HT.sIx_none]
  have e : HT.sIx (xs ++ [x]).length (xs ++ [x]).length (some (-1)) = xs.length := by
    show (if (-1 : Int) < 0 then ((-1 : Int) + ((xs ++ [x]).length : Int)).toNat else min (-1 : Int).toNat (xs ++ [x]).length) = xs.length
    rw [if_pos (by decide), List.length_append, List.length_singleton]
    omega
  rw [e, List.drop_zero, Nat.sub_zero, List.take_append_of_le_length (Nat.le_refl _), List.take_length]
end R

/-! ## tricks that make pairs -/
namespace R
/-- a multiplier that makes all pairs -/
def goodT (B : Int) (l : List (Int × Int)) (t : Int) : Bool := l.all fun p => decide (p.1 / B + t * (p.1 % B) = p.2)
def tms (i : Nat) : List Int := (List.range i).map fun (j : Nat) => (j : Int) - 100
def facs (B : Int) (l : List (Int × Int)) : List Int := (tms 201).filter (goodT B l)
/-- rest, and what is left to be made of it -/
def rst (B : Int) (p : Int × Int) : Int × Int := (p.1 % B, p.2 - p.1 / B)
theorem goodT_rst {B t : Int} {l : List (Int × Int)} : goodT B l t = l.all fun p => decide ((rst B p).1 * t = (rst B p).2) := by
  unfold goodT rst
  congr 1
  funext p
  rw [Int.mul_comm (p.1 % B) t]
  exact decide_eq_decide.mpr ⟨fun h => by omega, fun h => by omega⟩
theorem tms_mem {t : Int} : t ∈ tms 201 ↔ -100 ≤ t ∧ t ≤ 100 := by
  unfold tms
  rw [List.mem_map]
  constructor
  · rintro ⟨j, hj, rfl⟩
    rw [List.mem_range] at hj
    omega
  · rintro ⟨h1, h2⟩
    exact ⟨(t + 100).toNat, List.mem_range.mpr (by omega), by omega⟩
theorem facs_none {B : Int} {l : List (Int × Int)} (h : ∀ t, -100 ≤ t → t ≤ 100 → goodT B l t = false) : facs B l = [] := by
  unfold facs
  rw [List.filter_eq_nil_iff]
  intro t ht
  have := tms_mem.mp ht
  rw [h t this.1 this.2]
  decide
theorem facs_zero {B : Int} {l : List (Int × Int)} (h : ∃ p ∈ l, (rst B p).1 = 0 ∧ (rst B p).2 ≠ 0) : facs B l = [] := by
  refine facs_none fun t _ _ => ?_
  obtain ⟨p, hp, h1, h2⟩ := h
  rw [goodT_rst, List.all_eq_false]
  refine ⟨p, hp, ?_⟩
  rw [h1, Int.zero_mul, decide_eq_true_iff]
  exact fun z => h2 z.symm
theorem facs_all {B : Int} {l : List (Int × Int)} (h : ∀ p ∈ l, (rst B p).1 = 0 ∧ (rst B p).2 = 0) : facs B l = tms 201 := by
  unfold facs
  rw [List.filter_eq_self]
  intro t _
  rw [goodT_rst, List.all_eq_true]
  intro p hp
  rw [(h p hp).1, (h p hp).2, Int.zero_mul]
  rfl
theorem filter_eq_one {t : Int} {p : Int → Bool} : ∀ {l : List Int}, l.Nodup → t ∈ l → (∀ x ∈ l, p x = decide (x = t)) → l.filter p = [t]
  | [], _, h, _ => by simp at h
  | x :: l, nd, h, hp => by
    rw [List.nodup_cons] at nd
    rw [List.filter_cons, hp x List.mem_cons_self]
    by_cases c : x = t
    · subst c
      rw [if_pos (decide_eq_true rfl), show l.filter p = [] from by
        rw [List.filter_eq_nil_iff]
        intro y hy
        rw [hp y (List.mem_cons_of_mem _ hy), decide_eq_true_iff]
        exact fun z => nd.1 (z ▸ hy)]
    · rw [if_neg (by rw [decide_eq_true_iff]; exact c)]
      refine filter_eq_one nd.2 ?_ fun y hy => hp y (List.mem_cons_of_mem _ hy)
      rcases List.mem_cons.mp h with z | z
      · exact absurd z.symm c
      · exact z
theorem nodup_map_sub : ∀ n : Nat, (tms n).Nodup
  | 0 => List.nodup_nil
  | n + 1 => by
    unfold tms
    rw [List.range_succ, List.map_append]
    refine List.nodup_append.mpr ⟨nodup_map_sub n, by simp, fun a ha b hb => ?_⟩
    obtain ⟨j, hj, rfl⟩ := List.mem_map.mp ha
    rw [List.mem_range] at hj
    have : b = (n : Int) - 100 := by simpa using hb
    omega
/-- the first pair with a rest tells the only multiplier -/
theorem facs_one {B : Int} {l : List (Int × Int)} {r s : Int} (hr : 0 < r) (hm : ∃ p ∈ l, rst B p = (r, s)) (hz : ∀ p ∈ l, (rst B p).1 = 0 → (rst B p).2 = 0) :
    facs B l = if (-100 ≤ s / r ∧ s / r ≤ 100) ∧ (∀ p ∈ l, (rst B p).1 ≠ 0 → (rst B p).1 * (s / r) = (rst B p).2) then [s / r] else [] := by
  have only : ∀ t, goodT B l t = true → t = s / r := fun t h => by
    rw [goodT_rst, List.all_eq_true] at h
    obtain ⟨p, hp, e⟩ := hm
    have q := of_decide_eq_true (h p hp)
    rw [e] at q
    have q : r * t = s := q
    rw [← q]
    exact (Int.mul_ediv_cancel_left t (by omega)).symm
  by_cases c : (-100 ≤ s / r ∧ s / r ≤ 100) ∧ (∀ p ∈ l, (rst B p).1 ≠ 0 → (rst B p).1 * (s / r) = (rst B p).2)
  · rw [if_pos c]
    have g : goodT B l (s / r) = true := by
      rw [goodT_rst, List.all_eq_true]
      intro p hp
      by_cases z : (rst B p).1 = 0
      · rw [z, hz p hp z, Int.zero_mul]; rfl
      · exact decide_eq_true (c.2 p hp z)
    refine filter_eq_one (nodup_map_sub 201) (tms_mem.mpr c.1) fun x _ => ?_
    cases e : goodT B l x with
    | true => rw [only x e]; exact (decide_eq_true rfl).symm
    | false =>
      symm
      rw [decide_eq_false_iff_not]
      rintro rfl
      rw [g] at e; cases e
  · rw [if_neg c]
    refine facs_none fun t h1 h2 => ?_
    cases e : goodT B l t with
    | false => rfl
    | true =>
      exfalso
      have z := only t e
      subst z
      refine c ⟨⟨h1, h2⟩, fun p hp _ => ?_⟩
      rw [goodT_rst, List.all_eq_true] at e
      exact of_decide_eq_true (e p hp)
/-- all tricks with a base and so many figures that make the pairs -/
def fitB (l : List (Int × Int)) (b k : Int) : List (List Int) := (facs (b ^ k.toNat) l).map fun t => [b, k, t]
def fitRow (l : List (Int × Int)) (b : Int) : Nat → List (List Int)
  | 0 => []
  | j + 1 => fitRow l b j ++ fitB l b (1 + (j : Int))
def fitAll (l : List (Int × Int)) : Nat → List (List Int)
  | 0 => []
  | i + 1 => fitAll l i ++ fitRow l (2 + (i : Int)) 2
theorem fitB_len (l : List (Int × Int)) (b k : Int) : (fitB l b k).length ≤ 201 := by
  unfold fitB facs tms
  rw [List.length_map]
  refine Nat.le_trans (List.length_filter_le _ _) ?_
  rw [List.length_map, List.length_range]
  exact Nat.le_refl _
theorem fitRow_len (l : List (Int × Int)) (b : Int) : ∀ j, (fitRow l b j).length ≤ 201 * j
  | 0 => Nat.le_refl 0
  | j + 1 => by
    have h1 := fitRow_len l b j
    have h2 := fitB_len l b (1 + (j : Int))
    rw [fitRow, List.length_append]; omega
theorem fitAll_len (l : List (Int × Int)) : ∀ i, (fitAll l i).length ≤ 402 * i
  | 0 => Nat.le_refl 0
  | i + 1 => by
    have h1 := fitAll_len l i
    have h2 := fitRow_len l (2 + (i : Int)) 2
    rw [fitAll, List.length_append]; omega
end R

/-! ## list(range(a, b)) -/
namespace R
open PySem PySem.Spec PyProof.Rows L2
theorem a_lstRg {te : L2.St → Hp → (Int → Int → Hp → Prop) → Prop} {σ : L2.St} {H : Hp} {Q : VK} (h : te σ H fun a b H1 => RgOk a b ∧ ∀ q, H1 q = none → Q (.ref q) (upd H1 q (.lst (rgV a b)))) : tLstRg te σ H Q := h
theorem a_rg2 {ta tb : TE} {σ : L2.St} {H : Hp} {Qr : Int → Int → Hp → Prop} (h : ta σ H fun x H1 => tb σ H1 fun y H2 => ∃ i j, x = .int i ∧ y = .int j ∧ Qr i j H2) : tRg2 ta tb σ H Qr := h
end R

/-! ## drawn parts of a trick, where no Trick is made -/
namespace R
def TrickOk (b k t : Int) : Prop := (2 ≤ b ∧ b ≤ 16) ∧ (1 ≤ k ∧ k ≤ 2) ∧ -100 ≤ t ∧ t ≤ 100
theorem block_small {b k : Int} (hb : 2 ≤ b ∧ b ≤ 16) (hk : 1 ≤ k ∧ k ≤ 2) : 2 ≤ b ^ k.toNat ∧ b ^ k.toNat ≤ 256 := by
  have e : k = 1 ∨ k = 2 := by omega
  rcases e with rfl | rfl
  · have z : b ^ (1 : Int).toNat = b := by rw [show (1 : Int).toNat = 1 from rfl, Int.pow_succ, Int.pow_zero, Int.one_mul]
    rw [z]; omega
  · have z : b ^ (2 : Int).toNat = b * b := by rw [show (2 : Int).toNat = 2 from rfl, Int.pow_succ, Int.pow_succ, Int.pow_zero, Int.one_mul]
    rw [z]
    have h1 : b * 2 ≤ b * b := Int.mul_le_mul_of_nonneg_left hb.1 (by omega)
    have h2 : b * b ≤ 16 * 16 := Int.mul_le_mul hb.2 hb.2 (by omega) (by omega)
    omega
end R

/-! ## sorted(xs), xs a list of tuples of ints (none empty), or a dict with such keys -/
namespace R
open PySem PySem.Spec PyProof.Rows L2
open PySem.W (Frag EachIs AllAlike Sortable sorted_data list_sort_data dataLe dataLt alike_ints depth_ints)
/-- the refs of rows -/
def refs {α : Type} (ps : List (Addr × α)) : List V := ps.map fun q => V.ref q.1
def encT (q : Addr × List Int) : PyData := .tuple (q.2.map .int)
def leT (x y : Addr × List Int) : Bool := decide (x.2 ≤ y.2)
theorem dataLe_T : dataLe false encT = leT := by
  funext p q
  show (!dataLt (.tuple (q.2.map .int)) (.tuple (p.2.map .int))) = _
  rw [PySem.W.dataLt_tuple]
  show (!PySem.W.rowLt (q.2.map .int) (p.2.map .int)) = _
  rw [PySem.W.dataLt_ints]
  unfold leT
  by_cases h : q.2 < p.2
  · have h' : ¬ p.2 ≤ q.2 := fun r => List.not_lt.mpr r h
    simp [h, h']
  · have h' : p.2 ≤ q.2 := List.not_lt.mp h
    simp [h, h']
def isRef (v : Value) (q : Addr × List Int) : Prop := v = .ref q.1
theorem vals_refs {α : Type} : ∀ {ps : List (Addr × α)} {its : List Value}, Vals (refs ps) its → its = ps.map fun q => Value.ref q.1
  | [], _, h => by cases h; rfl
  | q :: ps, _, h => by
    cases h with
    | cons h1 h2 =>
      cases h1
      rw [vals_refs h2]; rfl
theorem refs_vals {α : Type} : ∀ (ps : List (Addr × α)), Vals (refs ps) (ps.map fun q => Value.ref q.1)
  | [] => .nil
  | q :: ps => .cons rfl (refs_vals ps)
theorem each_refs {P : Value → (Addr × List Int) → Prop} : ∀ {ps : List (Addr × List Int)}, (∀ q ∈ ps, P (.ref q.1) q) → EachIs P (ps.map fun q => Value.ref q.1) ps
  | [], _ => .nil
  | q :: ps, h => .cons (h q List.mem_cons_self) (each_refs fun x hx => h x (List.mem_cons_of_mem _ hx))
theorem each_isRef : ∀ {ps : List (Addr × List Int)} {vs : List Value}, EachIs isRef vs ps → vs = ps.map fun q => Value.ref q.1
  | [], _, h => by cases h; rfl
  | q :: ps, _, h => by
    cases h with
    | cons h1 h2 => rw [each_isRef h2, show _ = _ from h1]; rfl
theorem alike_T (ps : List (Addr × List Int)) : AllAlike (ps.map encT) := AllAlike.of fun b b' => by
  show PySem.W.alikeAll _ _ = true
  exact alike_ints _ _
theorem sortable_T {ps : List (Addr × List Int)} (h : ∀ q ∈ ps, q.2 ≠ []) : Sortable (ps.map encT) := .inl fun d hd => by
  obtain ⟨q, hq, rfl⟩ := List.mem_map.mp hd
  obtain ⟨a, l⟩ := q
  cases l with
  | nil => exact absurd rfl (h _ hq)
  | cons x r => exact ⟨.int x, r.map .int, rfl⟩
theorem depth_T (q : Addr × List Int) : (encT q).depth ≤ 1 := by
  show PyData.depth (.tuple (q.2.map .int)) ≤ 1
  simp only [PyData.depth]
  rw [depth_ints]
  decide
theorem dp_ints {K : Frag} {H : Hp} : ∀ l : List Int, DpAll K H (l.map V.int) (l.map .int)
  | [] => .nil
  | x :: l => .cons (.int x) (dp_ints l)
def rSortedTs (K : Frag) : List V → Hp → VK → Prop := fun vs H Q => ∃ (a : Addr) (ps : List (Addr × List Int)), vs = [.ref a] ∧ SqL K H a (refs ps) ∧ (∀ q ∈ ps, SqT K H q.1 (q.2.map V.int) ∧ q.2 ≠ []) ∧ ∀ p, H p = none → Q (.ref p) (upd H p (.lst (refs (ps.mergeSort leT))))
theorem cr_sortedTs {X : Cx} (hu : X.A.units + 64 < cLine) : CallR X (.builtin "sorted") (rSortedTs X.K) := by
  intro pins s σ H vs us Q I r h
  obtain ⟨a, ps, rfl, hs, hx, q⟩ := h
  obtain ⟨its, rv, hl, hz⟩ := I.list hs
  obtain ⟨u, rfl, ru⟩ := vals1 r
  obtain rfl : u = Value.ref a := ru
  obtain rfl := vals_refs rv
  have hz : ps.length ≤ sizeLine := by rw [← List.length_map (f := fun q : Addr × List Int => V.ref q.1)]; exact hz
  refine sorted_data (R := isRef) (enc := encT) (bs := ps) hl.isList (each_refs fun _ _ => rfl) (each_refs fun x hx' => ?_) (alike_T ps) (sortable_T fun x hx' => (hx x hx').2) hz (fun b _ => ?_) fun out hlen eo => ?_
  · exact Dp.reads I _ _ _ (.tup (hx x hx').1 (dp_ints _)) rfl
  · have := depth_T b; omega
  · rw [dataLe_T] at eo
    obtain rfl := each_isRef eo
    obtain ⟨n, hn⟩ := sortedAll_at s.heap (ps.map fun q => Value.ref q.1) ((ps.mergeSort leT).map fun q => Value.ref q.1).toArray
    refine ⟨.ref (s.heap.objs.size + 1), upd H (s.heap.objs.size + 1) (.lst (refs (ps.mergeSort leT))), I.laid (t' := s.toks) (fun b o e => sortedAll_old e) (Nat.le_succ _) ⟨?_, _, n, refs_vals _, hn⟩, rfl, q _ (I.hok.fresh (Nat.le_succ _))⟩
    rw [show (refs (ps.mergeSort leT)).length = ps.length by unfold refs; rw [List.length_map, List.length_mergeSort]]
    exact hz
/-! the order -/
theorem leT_le {x y : Addr × List Int} : leT x y = true ↔ x.2 ≤ y.2 := decide_eq_true_iff
theorem sort_T (ps : List (Addr × List Int)) : ((ps.mergeSort leT).map (·.2)).Pairwise (· ≤ ·) := by
  rw [List.pairwise_map]
  refine (List.pairwise_mergeSort (le := leT) (fun a b c h1 h2 => ?_) (fun a b => ?_) ps).imp fun h => leT_le.mp h
  · exact leT_le.mpr (List.le_trans (leT_le.mp h1) (leT_le.mp h2))
  · rw [Bool.or_eq_true]
    rcases List.le_total a.2 b.2 with h | h
    · exact .inl (leT_le.mpr h)
    · exact .inr (leT_le.mpr h)
theorem sort_memT {ps : List (Addr × List Int)} {q : Addr × List Int} : q ∈ ps.mergeSort leT ↔ q ∈ ps := List.mem_mergeSort
/-- two sorted lists without repeats that have the same members are one -/
theorem sorted_one : ∀ {l m : List (List Int)}, l.Pairwise (· ≤ ·) → m.Pairwise (· ≤ ·) → l.Nodup → m.Nodup → (∀ x, x ∈ l ↔ x ∈ m) → l = m
  | [], [], _, _, _, _, _ => rfl
  | [], y :: m, _, _, _, _, h => absurd ((h y).mpr List.mem_cons_self) List.not_mem_nil
  | x :: l, [], _, _, _, _, h => absurd ((h x).mp List.mem_cons_self) List.not_mem_nil
  | x :: l, y :: m, s1, s2, n1, n2, h => by
    rw [List.pairwise_cons] at s1 s2
    rw [List.nodup_cons] at n1 n2
    have e : x = y := by
      rcases List.mem_cons.mp ((h x).mp List.mem_cons_self) with e | e
      · exact e
      · rcases List.mem_cons.mp ((h y).mpr List.mem_cons_self) with e2 | e2
        · exact e2.symm
        · exact List.le_antisymm (s1.1 y e2) (s2.1 x e)
    subst e
    rw [sorted_one s1.2 s2.2 n1.2 n2.2 fun z => ⟨fun hz => ?_, fun hz => ?_⟩]
    · rcases List.mem_cons.mp ((h z).mp (List.mem_cons_of_mem _ hz)) with e | e
      · exact absurd (e ▸ hz) n1.1
      · exact e
    · rcases List.mem_cons.mp ((h z).mpr (List.mem_cons_of_mem _ hz)) with e | e
      · exact absurd (e ▸ hz) n2.1
      · exact e
end R

/-! ## a set of tuples of ints, up to 19660 of them: the table -/
namespace R
open PySem PySem.Spec PyProof.Rows L2
open PySem.W (Frag)
/-! the round i -> 5 i + 1 modulo a power of two comes back after all of them only -/
def s5 : Nat → Nat
  | 0 => 0
  | n + 1 => s5 n * 5 + 1
theorem s5_pow : ∀ n, 4 * s5 n + 1 = 5 ^ n
  | 0 => rfl
  | n + 1 => by
    have h := s5_pow n
    rw [Nat.pow_succ, ← h]
    show 4 * (s5 n * 5 + 1) + 1 = (4 * s5 n + 1) * 5
    omega
theorem s5_two (m : Nat) : s5 (2 * m) = s5 m * (2 * (2 * s5 m + 1)) := by
  have h1 := s5_pow m
  have h2 := s5_pow (2 * m)
  rw [show 2 * m = m + m by omega, Nat.pow_add, ← h1] at h2
  rw [show 2 * m = m + m by omega]
  have h3 : (4 * s5 m + 1) * (4 * s5 m + 1) = 4 * (s5 m * (2 * (2 * s5 m + 1))) + 1 := by
    generalize s5 m = x
    rw [Nat.mul_add, Nat.mul_add, Nat.mul_add, Nat.add_mul, Nat.mul_one, Nat.mul_one]
    have : 4 * x * (4 * x) = 16 * (x * x) := by rw [Nat.mul_mul_mul_comm]
    have : x * (2 * (2 * x)) = 4 * (x * x) := by rw [← Nat.mul_assoc 2 2 x, Nat.mul_left_comm]
    omega
  omega
theorem s5_odd (m : Nat) : s5 (2 * m + 1) % 2 = 1 := by
  have h1 : s5 (2 * m) % 2 = 0 := by
    rw [s5_two]
    have : s5 m * (2 * (2 * s5 m + 1)) = 2 * (s5 m * (2 * s5 m + 1)) := by rw [← Nat.mul_assoc, ← Nat.mul_assoc, Nat.mul_comm (s5 m) 2]
    omega
  show (s5 (2 * m) * 5 + 1) % 2 = 1
  omega
theorem two_odd {k x y : Nat} (hy : y % 2 = 1) (h : 2 ^ k ∣ x * y) : 2 ^ k ∣ x := by
  have c : Nat.Coprime (2 ^ k) y := by
    refine Nat.Coprime.pow_left k ?_
    show Nat.gcd 2 y = 1
    rw [Nat.gcd_rec, hy]
    decide
  exact c.dvd_of_dvd_mul_right h
theorem s5_dvd : ∀ (k n : Nat), 2 ^ k ∣ s5 n → 2 ^ k ∣ n
  | 0, n, _ => ⟨n, by rw [Nat.pow_zero, Nat.one_mul]⟩
  | k + 1, n, h => by
    have e2 : 2 ^ (k + 1) = 2 * 2 ^ k := by rw [Nat.pow_succ, Nat.mul_comm]
    have e : n = 2 * (n / 2) ∨ n = 2 * (n / 2) + 1 := by omega
    rcases e with e | e
    · rw [e, s5_two, e2] at h
      obtain ⟨c, hc⟩ := h
      have h2 : 2 ^ k ∣ s5 (n / 2) * (2 * s5 (n / 2) + 1) := ⟨c, by
        have : s5 (n / 2) * (2 * (2 * s5 (n / 2) + 1)) = 2 * (s5 (n / 2) * (2 * s5 (n / 2) + 1)) := by rw [← Nat.mul_assoc, Nat.mul_comm (s5 (n / 2)) 2, Nat.mul_assoc]
        rw [this, Nat.mul_assoc] at hc
        exact Nat.eq_of_mul_eq_mul_left (by decide) hc⟩
      have h3 := s5_dvd k (n / 2) (two_odd (by omega) h2)
      rw [e, e2]
      exact Nat.mul_dvd_mul_left 2 h3
    · exfalso
      obtain ⟨c, hc⟩ := h
      have h1 := s5_odd (n / 2)
      rw [← e, hc, e2, Nat.mul_assoc] at h1
      omega
/-- so many rounds in plain words -/
theorem lcg_plain {m i : Nat} (hi : i ≤ m) : ∀ n, lcgI m i n = (5 ^ n * i + s5 n) % (m + 1)
  | 0 => by
    show i = (5 ^ 0 * i + 0) % (m + 1)
    rw [Nat.pow_zero, Nat.one_mul, Nat.add_zero, Nat.mod_eq_of_lt (Nat.lt_succ_of_le hi)]
  | n + 1 => by
    show (lcgI m i n * 5 + 1) % (m + 1) = _
    rw [lcg_plain hi n, Nat.add_mod, Nat.mod_mul_mod, ← Nat.add_mod]
    congr 1
    show (5 ^ n * i + s5 n) * 5 + 1 = 5 ^ (n + 1) * i + (s5 n * 5 + 1)
    rw [Nat.add_mul, Nat.pow_succ, Nat.mul_right_comm]
    omega
theorem lcg_le {m i : Nat} (hi : i ≤ m) : ∀ n, lcgI m i n ≤ m
  | 0 => hi
  | _ + 1 => Nat.le_of_lt_succ (Nat.mod_lt _ (Nat.succ_pos _))
theorem lcg_on (m i a : Nat) : ∀ n, lcgI m (lcgI m i a) n = lcgI m i (a + n)
  | 0 => rfl
  | n + 1 => by
    show (lcgI m (lcgI m i a) n * 5 + 1) % (m + 1) = (lcgI m i (a + n) * 5 + 1) % (m + 1)
    rw [lcg_on m i a n]
theorem lcg_back {m k i n : Nat} (hm : m + 1 = 2 ^ k) (hi : i ≤ m) (h : lcgI m i n = i) : m + 1 ∣ n := by
  rw [lcg_plain hi] at h
  have p := s5_pow n
  have h2 : (5 ^ n * i + s5 n) % (m + 1) = i % (m + 1) := by rw [h, Nat.mod_eq_of_lt (Nat.lt_succ_of_le hi)]
  have e : 5 ^ n * i + s5 n = i + s5 n * (4 * i + 1) := by
    rw [← p, Nat.add_mul, Nat.one_mul, Nat.mul_add, Nat.mul_one, Nat.mul_comm 4 (s5 n), Nat.mul_assoc]
    omega
  rw [e] at h2
  have d : m + 1 ∣ s5 n * (4 * i + 1) := by
    have q := Nat.sub_mod_eq_zero_of_mod_eq h2
    rw [Nat.add_sub_cancel_left] at q
    exact Nat.dvd_of_mod_eq_zero q
  rw [hm] at d ⊢
  exact s5_dvd k n (two_odd (by omega) d)
theorem lcg_inj {m k i a b : Nat} (hm : m + 1 = 2 ^ k) (hi : i ≤ m) (hab : a < b) (hb : b ≤ m) : lcgI m i a ≠ lcgI m i b := fun h => by
  have e : lcgI m (lcgI m i a) (b - a) = lcgI m i a := by rw [lcg_on, show a + (b - a) = b by omega, h]
  have d := Nat.le_of_dvd (by omega) (lcg_back hm (lcg_le hi a) e)
  omega
/-- of so many runs one begins at a place that is not among fewer -/
theorem run_free {m k b : Nat} (hm : m + 1 = 2 ^ k) (hb : b < 2 ^ 64) (l : List Nat) (hl : l.length ≤ m) : ∃ c, c ≤ 12 + l.length ∧ runI m b c ∉ l := by
  rcases Classical.em (∃ c, c ≤ 12 + l.length ∧ runI m b c ∉ l) with z | z
  · exact z
  · exfalso
    have nd : ((List.range (l.length + 1)).map fun c => runI m b (12 + c)).Nodup := by
      unfold List.Nodup
      rw [List.pairwise_map]
      refine List.Pairwise.imp_of_mem (fun {x y} hx hy hxy => ?_) (List.pairwise_lt_range (n := l.length + 1))
      rw [List.mem_range] at hx hy
      rw [runI_tail hb, runI_tail hb]
      exact lcg_inj hm (runI_le m b 12) hxy (by omega)
    have q := nat_nodup_len _ l nd fun x hx => by
      obtain ⟨c, hc, rfl⟩ := List.mem_map.mp hx
      rw [List.mem_range] at hc
      rcases Classical.em (runI m b (12 + c) ∈ l) with y | y
      · exact y
      · exact absurd ⟨12 + c, by omega, y⟩ z
    rw [List.length_map, List.length_range] at q
    omega
/-- the first place on the way that is not among l -/
theorem way_free {m k : Nat} (hm : m + 1 = 2 ^ k) (h : Int) (l : List Nat) (hl : l.length ≤ m) : ∃ K, K ≤ 10 * (12 + l.length) ∧ way m h K ∉ l ∧ ∀ k', k' < K → way m h k' ∈ l := by
  obtain ⟨c, hc, hn⟩ := run_free hm (bits_lt h) l hl
  obtain ⟨k1, h1, e⟩ := run_nth m (SetTable.bits h) c
  have e2 : way m h k1 = runI m (SetTable.bits h) c := congrArg SetTable.Probe.j e
  obtain ⟨K, a1, a2, a3⟩ := st_least (p := fun q => way m h q ∉ l) k1 (show way m h k1 ∉ l by rw [e2]; exact hn)
  refine ⟨K, by omega, a2, fun k' hk => ?_⟩
  rcases Classical.em (way m h k' ∈ l) with y | y
  · exact y
  · exact absurd y (a3 k' hk)
/-- the masks that come -/
def Msk (m : Nat) : Prop := m = 7 ∨ m = 31 ∨ m = 127 ∨ m = 511 ∨ m = 2047 ∨ m = 8191 ∨ m = 32767
theorem Msk.pow {m : Nat} (h : Msk m) : ∃ k, m + 1 = 2 ^ k := by
  rcases h with rfl | rfl | rfl | rfl | rfl | rfl | rfl
  · exact ⟨3, rfl⟩
  · exact ⟨5, rfl⟩
  · exact ⟨7, rfl⟩
  · exact ⟨9, rfl⟩
  · exact ⟨11, rfl⟩
  · exact ⟨13, rfl⟩
  · exact ⟨15, rfl⟩
theorem Msk.odd {m : Nat} (h : Msk m) : m % 2 = 1 := by
  rcases h with rfl | rfl | rfl | rfl | rfl | rfl | rfl <;> rfl
theorem up_5 : SetTable.sizeAbove (SetTable.grown 5) = 32 := by decide +kernel
theorem up_19 : SetTable.sizeAbove (SetTable.grown 19) = 128 := by decide +kernel
theorem up_77 : SetTable.sizeAbove (SetTable.grown 77) = 512 := by decide +kernel
theorem up_307 : SetTable.sizeAbove (SetTable.grown 307) = 2048 := by decide +kernel
theorem up_1229 : SetTable.sizeAbove (SetTable.grown 1229) = 8192 := by decide +kernel
theorem up_4915 : SetTable.sizeAbove (SetTable.grown 4915) = 32768 := by decide +kernel
/-- where a table of n gets too full, the next one has room -/
theorem Msk.next {m n : Nat} (h : Msk m) (h1 : n * 5 < m * 3) (h2 : (n + 1) * 5 ≥ m * 3) (hn : n + 1 ≤ 19660) :
    ∃ M, SetTable.sizeAbove (SetTable.grown (n + 1)) = M + 1 ∧ Msk M ∧ M ≤ 32767 ∧ (n + 1) * 5 < M * 3 ∧ n + 1 ≤ m := by
  rcases h with rfl | rfl | rfl | rfl | rfl | rfl | rfl
  · obtain rfl : n = 4 := by omega
    exact ⟨31, up_5, .inr (.inl rfl), by omega, by omega, by omega⟩
  · obtain rfl : n = 18 := by omega
    exact ⟨127, up_19, .inr (.inr (.inl rfl)), by omega, by omega, by omega⟩
  · obtain rfl : n = 76 := by omega
    exact ⟨511, up_77, .inr (.inr (.inr (.inl rfl))), by omega, by omega, by omega⟩
  · obtain rfl : n = 306 := by omega
    exact ⟨2047, up_307, .inr (.inr (.inr (.inr (.inl rfl)))), by omega, by omega, by omega⟩
  · obtain rfl : n = 1228 := by omega
    exact ⟨8191, up_1229, .inr (.inr (.inr (.inr (.inr (.inl rfl))))), by omega, by omega, by omega⟩
  · obtain rfl : n = 4914 := by omega
    exact ⟨32767, up_4915, .inr (.inr (.inr (.inr (.inr (.inr rfl))))), by omega, by omega, by omega⟩
  · exfalso; omega
/-- a table of n elements, none dropped -/
structure Tab (t : SetTable) (n : Nat) : Prop where
  ris : Ris t.place.toList
  dm : t.dummies = #[]
  sz : t.place.size = n
  msk : Msk t.mask
theorem Tab.fits {t : SetTable} {n : Nat} (T : Tab t n) (h : n ≤ t.mask) : t.fits n = true := by
  unfold SetTable.fits SetTable.fill
  rw [T.dm, T.sz, Bool.and_eq_true, beq_iff_eq, decide_eq_true_eq]
  exact ⟨rfl, h⟩
theorem Tab.put {t : SetTable} {n j : Nat} (T : Tab t n) (hj : j ∉ t.place.toList) :
    (t.put j).2 = SetTable.below t.place j ∧ SetTable.below t.place j ≤ n ∧ Tab (t.put j).1 (n + 1) ∧ (t.put j).1.mask = t.mask ∧ (t.put j).1.led = t.led ∧ (t.put j).1.plain = t.plain ∧ (t.put j).1.fill = n + 1 := by
  have c := (below_cut T.ris j).1
  have hz : (t.put j).1.place.size = n + 1 := by
    rw [← Array.length_toList, put_place, len_ins _ (by rw [Array.length_toList]; exact c), Array.length_toList, T.sz]
  have hn : t.place[SetTable.below t.place j]? ≠ some j := fun e => hj (List.mem_of_getElem? (by rw [Array.getElem?_toList]; exact e))
  refine ⟨rfl, by rw [← T.sz]; exact c, ⟨ris_insert T.ris hn, put_dm T.dm j, hz, T.msk⟩, rfl, rfl, rfl, ?_⟩
  show (t.put j).1.place.size + (t.put j).1.dummies.size = n + 1
  rw [hz, put_dm T.dm j]
  rfl
/-! laying anew -/
structure Lay (m n : Nat) (o : Array (Option Nat)) : Prop where
  sz : o.size = m + 1
  all : ∀ k, k < n → ∃ j, j ≤ m ∧ oAt o j = some k
  few : ∃ ps : List Nat, ps.length = n ∧ ∀ j, j ≤ m → oAt o j ≠ none → j ∈ ps
theorem way_in {m : Nat} {h : Int} {k : Nat} : way m h k ≤ m := by
  have hi : SetTable.bits h % (m + 1) ≤ m := Nat.le_of_lt_succ (Nat.mod_lt _ (Nat.succ_pos _))
  have r := runEnd_bd hi
  have q := nth_in (m := m) k (runAt m (SetTable.bits h % (m + 1)) (SetTable.bits h)) (by
    show SetTable.bits h % (m + 1) + (SetTable.runEnd m (SetTable.bits h % (m + 1)) - SetTable.bits h % (m + 1)) ≤ m
    omega)
  exact Nat.le_trans (Nat.le_add_right _ _) q
theorem Lay.one {m k n : Nat} (hm : m + 1 = 2 ^ k) {o : Array (Option Nat)} (W : Lay m n o) (hn : n ≤ m) (h : Int) :
    ∃ j, SetTable.layClean.free m o (SetTable.turns m) (SetTable.bits h % (m + 1)) (SetTable.bits h) = some j ∧ Lay m (n + 1) (o.setIfInBounds j (some n)) := by
  obtain ⟨ps, pl, pi⟩ := W.few
  obtain ⟨c, hc, hf⟩ := run_free hm (bits_lt h) ps (by omega)
  have e0 : (way m h (off m (SetTable.bits h % (m + 1)) (SetTable.bits h) c)) = runI m (SetTable.bits h) c := by
    show (nth m (runAt m _ _) (off m _ _ c)).j = _
    rw [nth_off, itL_run]
    rfl
  have f0 : oAt o (runI m (SetTable.bits h) c) = none := by
    cases z : oAt o (runI m (SetTable.bits h) c) with
    | none => rfl
    | some x => exact absurd (pi _ (runI_le m _ c) (by rw [z]; exact fun y => nomatch y)) hf
  obtain ⟨K, k1, k2, k3⟩ := st_least (p := fun q => oAt o (way m h q) = none) (off m (SetTable.bits h % (m + 1)) (SetTable.bits h) c) (show oAt o (way m h _) = none by rw [e0]; exact f0)
  have hj : way m h K ≤ m := way_in
  have hjs : way m h K < o.size := by rw [W.sz]; exact Nat.lt_succ_of_le hj
  have k2 : oAt o (way m h K) = none := k2
  refine ⟨way m h K, free_spec m o (SetTable.turns m) c _ _ K (by unfold SetTable.turns; omega) k1 (fun q hq => ?_) (by rw [show oAt o _ = none from k2]; rfl), ?_⟩
  · cases z : oAt o (way m h q) with
    | none => exact absurd z (k3 q hq)
    | some x => rfl
  · have self := oAt_set_self (some n) hjs
    refine ⟨by rw [Array.size_setIfInBounds]; exact W.sz, fun q hq => ?_, ⟨way m h K :: ps, by rw [List.length_cons, pl], fun q hq z => ?_⟩⟩
    · by_cases c : q = n
      · exact ⟨_, hj, by rw [self, c]⟩
      · obtain ⟨j, j1, j2⟩ := W.all q (by omega)
        refine ⟨j, j1, ?_⟩
        rw [oAt_set_ne _ fun y => by rw [y, k2] at j2; cases j2]
        exact j2
    · by_cases c : q = way m h K
      · rw [c]; exact List.mem_cons_self
      · rw [oAt_set_ne _ c] at z
        exact List.mem_cons_of_mem _ (pi q hq z)
theorem lay_fold {m k : Nat} (hm : m + 1 = 2 ^ k) : ∀ (hs : List Int) (n : Nat) (o : Array (Option Nat)), Lay m n o → n + hs.length ≤ m + 1 →
    ∃ o', hs.foldl (stepF m) (some (o, n)) = some (o', n + hs.length) ∧ Lay m (n + hs.length) o'
  | [], _, o, W, _ => ⟨o, rfl, W⟩
  | h :: hs, n, o, W, hl => by
    rw [List.length_cons] at hl
    obtain ⟨j, e, W1⟩ := W.one hm (by omega) h
    obtain ⟨o', e2, W2⟩ := lay_fold hm hs (n + 1) _ W1 (by omega)
    rw [show n + 1 + hs.length = n + (h :: hs).length by rw [List.length_cons]; omega] at e2 W2
    refine ⟨o', ?_, W2⟩
    rw [List.foldl_cons, stepF_some e]
    exact e2
theorem lay_all {m k : Nat} (hm : m + 1 = 2 ^ k) {hs : Array Int} (hn : hs.size ≤ m + 1) : ∃ o, SetTable.layClean m hs = some o ∧ Lay m hs.size o := by
  have W0 : Lay m 0 (Array.replicate (m + 1) none) := ⟨by simp, fun q hq => absurd hq (Nat.not_lt_zero _), ⟨[], rfl, fun j hj z => absurd (oAt_init hj) z⟩⟩
  have hz : hs.toList.length = hs.size := Array.length_toList
  obtain ⟨o, e, W⟩ := lay_fold hm hs.toList 0 _ W0 (by omega)
  rw [Nat.zero_add, hz] at W
  refine ⟨o, ?_, W⟩
  rw [layClean_eq, e]
  rfl
theorem lay_anew (t : SetTable) {hs : Array Int} {wanted M : Nat} (hw : SetTable.sizeAbove wanted = M + 1) (hM : Msk M) (hn : hs.size ≤ M) :
    ∃ t' order, t.relaid hs wanted = some (t', order) ∧ order.toList.Perm (List.range hs.size) ∧ Tab t' hs.size ∧ t'.mask = M ∧ t'.led = t.led ∧ t'.plain = t.plain := by
  obtain ⟨k, hk⟩ := hM.pow
  obtain ⟨o, e, W⟩ := lay_all hk (hs := hs) (by omega)
  have hw2 : SetTable.sizeAbove wanted - 1 = M := by omega
  obtain ⟨r1, r2⟩ := ris_live (fun j => o.getD j none) (List.range (M + 1)) (List.pairwise_lt_range (n := M + 1))
  have nd : ((liveOf M o).map (·.1)).Nodup := List.Pairwise.imp (fun h => Nat.ne_of_lt h) r1
  have cov : ∀ q, q < hs.size → q ∈ (liveOf M o).map (·.2) := fun q hq => by
    obtain ⟨j, j1, j2⟩ := W.all q hq
    exact List.mem_map.mpr ⟨(j, q), (mem_live W.sz).2 ⟨j1, j2⟩, rfl⟩
  have len : (liveOf M o).length = hs.size := by
    obtain ⟨ps, p1, p2⟩ := W.few
    have a := nat_nodup_len _ ps nd fun x hx => by
      obtain ⟨⟨y, q⟩, hq, rfl⟩ := List.mem_map.mp hx
      obtain ⟨b1, b2⟩ := (mem_live W.sz).1 hq
      exact p2 y b1 (by rw [b2]; exact fun z => nomatch z)
    have b := nat_nodup_len (List.range hs.size) ((liveOf M o).map (·.2)) List.nodup_range fun q hq => cov q (List.mem_range.mp hq)
    rw [List.length_map, p1] at a
    rw [List.length_map, List.length_range] at b
    omega
  refine ⟨tabOf t M o, ((liveOf M o).map (·.2)).toArray, by rw [relaid_eq, hw2, e]; rfl, perm_range hs.size _ (by show ((liveOf M o).map (·.2)).length = _; rw [List.length_map]; exact len) cov, ⟨r1, rfl, ?_, hM⟩, rfl, rfl, rfl⟩
  show ((liveOf M o).map (·.1)).toArray.size = hs.size
  rw [List.size_toArray, List.length_map]
  exact len
end R

/-! ## set(xs) of tuples of ints that are all unlike, up to 19660 -/
namespace R
open PySem PySem.Spec PyProof.Rows L2
open PySem.W (Frag)
section
variable {P : Program} {w : World} {A : Around} {E : Value → Shared → Prop} {s : Shared}
/-- the set at a holds the tuples L, in the table's order -/
structure TSet (P : Program) (w : World) (h : Heap) (a : Addr) (L : List (Addr × List Int)) (es : Array (Int × Value)) (ep : Nat) (t : SetTable) : Prop where
  at_ : ∃ o, h.get? a = some o ∧ o.ExactSet ∧ o.data = .set es ep t
  held : es.toList = rowsOf P w L
  tab : Tab t L.length
  keys : ∀ p ∈ L, IsT P w h p.2 p.1
  pl : t.plain = true
  ld : w.params.followText "set-order" = true ∨ t.led = true
  rm : L.length * 5 < t.mask * 3
variable {a : Addr} {L : List (Addr × List Int)} {es : Array (Int × Value)} {ep : Nat} {t : SetTable}
theorem rows_len {L : List (Addr × List Int)} {es : Array (Int × Value)} (h : es.toList = rowsOf P w L) : es.size = L.length := by
  rw [← Array.length_toList, h]
  exact List.length_map _
theorem TSet.len (T : TSet P w s.heap a L es ep t) : es.size = L.length := rows_len T.held
theorem TSet.fit (T : TSet P w s.heap a L es ep t) : t.fits es.size = true := by
  rw [T.len]
  exact T.tab.fits (by have := T.rm; omega)
theorem TSet.nth_ (T : TSet P w s.heap a L es ep t) {i : Nat} (h : i < L.length) : es[i]? = some (thash P w (L[i]).2, Value.ref (L[i]).1) := by
  rw [← Array.getElem?_toList, T.held]
  show (L.map _)[i]? = _
  rw [List.getElem?_map, List.getElem?_eq_getElem h]
  rfl
theorem TSet.notOld (T : TSet P w s.heap a L es ep t) : ¬ t.gaveWay = true := by
  show ¬ (t.mask % 2 == 0) = true
  rw [T.tab.msk.odd]
  decide
theorem dummy_on (m : Nat) : ∀ (n : Nat) (p : SetTable.Probe), p.dummy = none → (nth m p n).dummy = none
  | 0, _, h => h
  | n + 1, p, h => dummy_on m n (adv m p) (by unfold adv; split <;> exact h)
abbrev p0 (t : SetTable) (g : Int) : SetTable.Probe := runAt t.mask (SetTable.bits g % (t.mask + 1)) (SetTable.bits g)
/-- seeking a tuple that is not there: the first free place of its way -/
theorem seek_new (T : TSet P w s.heap a L es ep t) {x : Addr} {k : List Int} (hx : IsT P w s.heap k x) (hu : A.units < cLine) (hk : ∀ p ∈ L, p.2 ≠ k) {K : Nat} (hK1 : K < 10 * SetTable.turns t.mask)
    (hK2 : way t.mask (thash P w k) K ∉ t.place.toList) (hK3 : ∀ c, c < K → way t.mask (thash P w k) c ∈ t.place.toList) {Q : SetFound → Shared → Prop} (q : Q (.free (way t.mask (thash P w k) K) false) s) :
    ∀ (f c : Nat) (st : Option SetTable.Probe), st.getD (t.probeStart (thash P w k)) = nth t.mask (p0 t (thash P w k)) c → c ≤ K → K - c < f → wpAny (model P w) A (setSearchFrom a (.ref x) (thash P w k) true f st) Q E s
  | 0, _, _, _, _, z => absurd z (Nat.not_lt_zero _)
  | f + 1, c, st, hst, hc, hf => by
    obtain ⟨o, ho, _, hd⟩ := T.at_
    generalize hg : thash P w k = g at *
    rw [setSearchFrom_succ]
    refine wpAny_bind (wpAny_setState_of ho hd T.fit ?_)
    dsimp only
    refine wp_if_neg T.notOld ?_
    try refine wpAny_bind (wpAny_pure ?_)
    have on : ∀ r, nth t.mask (nth t.mask (p0 t g) c) r = nth t.mask (p0 t g) (c + r) := fun r => (nth_add t.mask c _ r).symm
    have onj : ∀ r, (nth t.mask (nth t.mask (p0 t g) c) r).j = way t.mask g (c + r) := fun r => congrArg SetTable.Probe.j (on r)
    have eK : c + (K - c) = K := by omega
    rcases go_spec t T.tab.ris T.tab.dm (fun i => (es[i]?.map (·.1)).getD 0) g (10 * SetTable.turns t.mask) (K - c) _ (dummy_on t.mask c _ rfl) (by omega) (fun r hr => by rw [onj]; exact hK3 _ (by omega)) (by rw [onj, eK]; exact hK2) with
      ⟨r, i, hr, hi, _, _, hp⟩ | ⟨_, hp⟩
    · rw [onj] at hi
      rw [on, on] at hp
      have il : i < L.length := by
        have h1 : i < t.place.toList.length := (List.getElem?_eq_some_iff.mp hi).1
        rw [Array.length_toList, T.tab.sz] at h1
        exact h1
      have pk := T.keys _ (List.getElem_mem il)
      have pn := hk _ (List.getElem_mem il)
      have pe := T.nth_ il
      have hp2 : t.probe (fun i => (es[i]?.map (·.1)).getD 0) g (st.getD (t.probeStart g)) = some (.candidate (way t.mask g (c + r)) i (nth t.mask (p0 t g) (c + (r + 1)))) := by
        rw [hst]
        exact hp
      rw [hp2]
      dsimp only
      have main : wpAny (model P w) A (searchRest a (.ref x) g true f es t (way t.mask g (c + r)) i (nth t.mask (p0 t g) (c + (r + 1)))) Q E s := by
        unfold searchRest
        rw [pe]
        dsimp only
        refine wpAny_bind (wpAny_holding (wpAny_eqBool_tuple hu pk hx ?_))
        refine wpAny_bind (wpAny_setState_of ho hd T.fit ?_)
        dsimp only
        rw [decide_eq_false pn]
        refine wp_if_neg (by decide) ?_
        try refine wpAny_bind (wpAny_pure ?_)
        rw [sameMem]
        dsimp only
        simp only [if_true, slot_live T.tab.ris hi, pe]
        refine wpAny_bind (wpAny_isSame_ref_self (wpAny_bind (wpAny_pure ?_)))
        simp only [if_true]
        refine wp_if_neg (by decide) ?_
        have again := seek_new T hx hu hk hK1 (by rw [hg]; exact hK2) (by rw [hg]; exact hK3) (by rw [hg]; exact q) f (c + (r + 1)) (some (nth t.mask (p0 t g) (c + (r + 1)))) (by rw [hg]; rfl) (by omega) (by omega)
        rw [hg] at again
        exact again
      by_cases hl : t.led = true
      · refine wp_if_neg (by rw [hl]; decide) ?_
        try refine wpAny_bind (wpAny_pure ?_)
        exact main
      · refine wp_if_pos (by rw [Bool.not_eq_true] at hl; rw [hl]; rfl) ?_
        refine wpAny_bind (seen_tup hx (fun y hy => ?_) ?_)
        · obtain ⟨e, he, rfl⟩ := List.mem_map.mp hy
          have he : e ∈ es.toList := by
            have z : e ∈ es ∧ e.1 = g := by simpa using he
            simpa using z.1
          rw [T.held] at he
          obtain ⟨p, hp, rfl⟩ := List.mem_map.mp he
          exact ⟨p.2, p.1, rfl, T.keys p hp⟩
        · refine wp_if_neg (by decide) ?_
          try refine wpAny_bind (wpAny_pure ?_)
          exact main
    · have hp2 : t.probe (fun i => (es[i]?.map (·.1)).getD 0) g (st.getD (t.probeStart g)) = some (.empty (way t.mask g K) none) := by
        rw [hst]
        have hp := hp
        rw [onj, eK] at hp
        exact hp
      rw [hp2]
      exact wpAny_pure q
/-- the table laid anew with more room -/
theorem relay_new {o : Obj} (ho : s.heap.get? a = some o) (hex : o.ExactSet) (hd : o.data = .set es ep t) (hr : es.toList = rowsOf P w L) (T : Tab t L.length) (hf : L.length ≤ t.mask) (ks : ∀ p ∈ L, IsT P w s.heap p.2 p.1) (pl : t.plain = true)
    (ld : w.params.followText "set-order" = true ∨ t.led = true) {wanted M : Nat} (hw : SetTable.sizeAbove wanted = M + 1) (hM : Msk M) (h2 : M ≤ 32767) (hn : L.length * 5 < M * 3) {Q : Unit → Shared → Prop}
    (q : ∀ h' L' es' ep' t', Heap.SameBut a s.heap h' → TSet P w h' a L' es' ep' t' → L'.Perm L → Q () { s with heap := h' }) : wpAny (model P w) A (setRelay a wanted) Q E s := by
  have sz := rows_len hr
  have ft : t.fits es.size = true := by rw [sz]; exact T.fits hf
  obtain ⟨t', od, e, hp, T2, em, el, epl⟩ := lay_anew t (hs := es.map (·.1)) hw hM (by rw [Array.size_map, sz]; omega)
  rw [Array.size_map, sz] at hp T2
  obtain ⟨L2, r1, r2, _⟩ := order_rows L es od hr hp
  have s2 : (od.filterMap (es[·]?)).size = es.size := by rw [rows_len r1, r2.length_eq, sz]
  rw [setRelay_eq]
  refine wpAny_bind (wpAny_setState_of ho hd ft ?_)
  dsimp only
  refine wp_if_neg (by rw [sizeLine_eq, hw]; omega) ?_
  try refine wpAny_bind (wpAny_pure ?_)
  rw [e]
  dsimp only
  refine wpAny_bind ?_
  refine wp_if_neg (by rw [s2]; simp) ?_
  try refine wpAny_bind (wpAny_pure ?_)
  refine wpAny_pure ?_
  dsimp only
  refine wpAny_storeSet_of ho hd ?_ (by rw [s2, sz, sizeLine_eq]; omega)
  have sb : Heap.SameBut a s.heap (s.heap.update a (Obj.putSet (od.filterMap (es[·]?)) t')) := Heap.SameBut.update ..
  refine q _ L2 _ (ep + 1) t' sb ⟨⟨_, store_at ho hd, ⟨hex.1, hex.2.1, hex.2.2⟩, rfl⟩, r1, by rw [r2.length_eq]; exact T2, fun p hp => isT_same (ks p (r2.mem_iff.mp hp)) ho hd sb, by rw [epl]; exact pl, by rw [el]; exact ld, ?_⟩ r2
  rw [r2.length_eq, em]
  exact hn
/-- putting in what is not there -/
theorem put_new (T : TSet P w s.heap a L es ep t) {x : Addr} {k : List Int} (hx : IsT P w s.heap k x) (hu : A.units < cLine) (hk : ∀ p ∈ L, p.2 ≠ k) (few : L.length + 1 ≤ 9000) {Q : Bool → Shared → Prop}
    (q : ∀ b h' L' es' ep' t', Heap.SameBut a s.heap h' → TSet P w h' a L' es' ep' t' → L'.Perm ((x, k) :: L) → Q b { s with heap := h' }) :
    wpAny (model P w) A (setAddHashed a (.ref x) (thash P w k)) Q E s := by
  obtain ⟨o, ho, hex, hd⟩ := T.at_
  have sz := T.len
  have rm := T.rm
  obtain ⟨_, hpow⟩ := T.tab.msk.pow
  have pz : t.place.toList.length = L.length := by rw [Array.length_toList, T.tab.sz]
  obtain ⟨K, k1, k2, k3⟩ := way_free hpow (thash P w k) t.place.toList (by omega)
  rw [pz] at k1
  unfold setAddHashed
  refine wpAny_holding ?_
  rw [show (100000 : Nat) = 99999 + 1 from rfl, setAddHashedIn_succ]
  refine wpAny_bind (wpAny_setState_of ho hd T.fit ?_)
  dsimp only
  refine wp_if_neg (by simp [byScan, Value.scannable]) ?_
  try refine wpAny_bind (wpAny_pure ?_)
  unfold setSearch
  refine wpAny_bind (seek_new T hx hu hk (by unfold SetTable.turns; omega) k2 k3 ?_ 100000 0 none rfl (Nat.zero_le _) (by omega))
  dsimp only
  refine wpAny_bind (wpAny_setState_of ho hd T.fit ?_)
  dsimp only
  obtain ⟨q1, q2, q3, q4, q5, q6, q9⟩ := T.tab.put k2
  have hp1 : (t.put (way t.mask (thash P w k) K)).1.plain = true := by rw [q6]; exact T.pl
  generalize hpt : t.put (way t.mask (thash P w k) K) = pt at q1 q3 q4 q5 q6 q9 hp1 ⊢
  obtain ⟨t1, p⟩ := pt
  dsimp only at q1 q3 q4 q5 q6 q9 hp1 ⊢
  rw [← q1] at q2
  first
    | (refine wpAny_bind ?_; refine wp_if_pos hp1 ?_; refine hashBy_tup hx ?_)
    | refine wp_if_pos hp1 (wpAny_bind (hashBy_tup hx ?_))
  simp only [if_true]
  have hin : (SetTable.insertAt es p (thash P w k, Value.ref x)).toList = rowsOf P w (L.take p ++ (x, k) :: L.drop p) := by rw [SetTable.toList_insertAt, rows_put, T.held]
  have pm := put_perm L p (x, k)
  have len := pm.length_eq
  rw [List.length_cons] at len
  generalize L.take p ++ (x, k) :: L.drop p = L1 at hin pm len
  have hes := rows_len hin
  generalize SetTable.insertAt es p (thash P w k, Value.ref x) = es1 at hin hes ⊢
  refine wpAny_bind (wpAny_storeSet_of ho hd ?_ (by rw [hes, len, sizeLine_eq]; omega))
  have sb : Heap.SameBut a s.heap (s.heap.update a (Obj.putSet es1 t1)) := Heap.SameBut.update ..
  have ho1 := store_at (es' := es1) (t' := t1) ho hd
  generalize s.heap.update a (Obj.putSet es1 t1) = h1 at sb ho1 ⊢
  have ks1 : ∀ p ∈ L1, IsT P w h1 p.2 p.1 := fun p hp => by
    rcases List.mem_cons.mp (pm.mem_iff.mp hp) with rfl | hp
    · exact isT_same hx ho hd sb
    · exact isT_same (T.keys p hp) ho hd sb
  have ld1 : w.params.followText "set-order" = true ∨ t1.led = true := by rw [q5]; exact T.ld
  rw [← len] at q3 q9
  by_cases hf : t1.tooFull = true
  · first
      | (refine wpAny_bind ?_; refine wp_if_pos (by simp [hf]) ?_)
      | (refine wp_if_pos (by simp [hf]) ?_; refine wpAny_bind ?_)
    have full : (L.length + 1) * 5 ≥ t.mask * 3 := by
      have h := hf
      unfold SetTable.tooFull at h
      rw [decide_eq_true_eq, q9, len, q4] at h
      exact h
    obtain ⟨M, m1, m2, m3, m4, m5⟩ := T.tab.msk.next rm full (by omega)
    rw [sz]
    refine relay_new (s := { s with heap := h1 }) (L := L1) ho1 ⟨hex.1, hex.2.1, hex.2.2⟩ rfl hin q3 (by rw [len, q4]; exact m5) ks1 hp1 ld1 m1 m2 m3 (by rw [len]; exact m4) fun h2 L2 es2 ep2 t2 sb2 T2 pm2 => ?_
    exact wpAny_pure (q true h2 L2 es2 ep2 t2 (sb.trans sb2) T2 (pm2.trans pm))
  · first
      | refine wp_if_neg (by simp [hf]) ?_
      | (refine wpAny_bind ?_; refine wp_if_neg (by simp [hf]) ?_; refine wpAny_pure ?_)
    refine wpAny_pure (q true h1 L1 es1 (ep + 1) t1 sb ⟨⟨_, ho1, ⟨hex.1, hex.2.1, hex.2.2⟩, rfl⟩, hin, q3, ks1, hp1, ld1, ?_⟩ pm)
    have h := hf
    unfold SetTable.tooFull at h
    rw [decide_eq_true_eq, q9, len] at h
    rw [len]
    omega
end
end R

/-! ## sorted(set(xs)), xs a list of tuples of ints that are all unlike -/
namespace R
open PySem PySem.Spec PyProof.Rows L2
open PySem.W (Frag EachIs AllAlike Sortable list_sort_data)
/-- a set with nothing in it -/
abbrev noSet3 (w : World) : Obj := { cls := .type "set", dict := none, data := .set #[] 0 (.fresh 0 0 (!w.params.followText "set-order")) }
section
variable {P : Program} {w : World} {A : Around} {E : Value → Shared → Prop} {s : Shared}
theorem TSet.on {h h' : Heap} {a : Addr} {L : List (Addr × List Int)} {es : Array (Int × Value)} {ep : Nat} {t : SetTable} (T : TSet P w h a L es ep t) (k : ∀ o, h.get? a = some o → h'.get? a = some o) (ks : ∀ p ∈ L, IsT P w h' p.2 p.1) : TSet P w h' a L es ep t := by
  obtain ⟨o, ho, r⟩ := T.at_
  exact ⟨⟨o, k o ho, r⟩, T.held, T.tab, ks, T.pl, T.ld, T.rm⟩
theorem tset_none {h : Heap} {a : Addr} (ho : h.get? a = some (noSet3 w)) : TSet P w h a [] #[] 0 (.fresh 0 0 (!w.params.followText "set-order")) where
  at_ := ⟨_, ho, ⟨rfl, rfl, rfl⟩, rfl⟩
  held := rfl
  tab := ⟨List.Pairwise.nil, rfl, rfl, .inl rfl⟩
  keys := fun p z => absurd z List.not_mem_nil
  pl := rfl
  ld := by
    show _ ∨ (!w.params.followText "set-order") = true
    cases w.params.followText "set-order"
    · exact .inr rfl
    · exact .inl rfl
  rm := by show 0 * 5 < 7 * 3; decide
/-- the loop of set(xs) -/
theorem fill_new {I : Addr} {fp wr : List Addr} {G : Array GenState → Array GenState → Prop} {n : Nat} {Pv : Nat → Value → Prop} {St : Nat → Shared → Prop} {R : Result → Shared → Prop}
    (W : WalksS P w A.in1 I fp wr G n Pv St) (S : Addr) (hS : S ∉ fp) (ks : List (Addr × List Int)) (hn : n = ks.length) (few : ks.length ≤ 9000) (nd : (ks.map (·.2)).Nodup) (val : ∀ i v, Pv i v → ∃ p, ks[i]? = some p ∧ v = .ref p.1)
    (g0 : Heap) (hk : ∀ p ∈ ks, IsT P w g0 p.2 p.1) (gS : g0.get? S = none) (gw : ∀ b ∈ wr, g0.get? b = none) (hu : A.in1.units < cLine) :
    ∀ (m i : Nat) (s : Shared), n - i = m → i ≤ n → St i s → (∀ b o, g0.get? b = some o → s.heap.get? b = some o) → (∃ L es ep t, TSet P w s.heap S L es ep t ∧ L.Perm (ks.take i)) →
      (∀ s' L es ep t, Moved (S :: wr) G s s' → TSet P w s'.heap S L es ep t → L.Perm ks → (∀ b o, g0.get? b = some o → s'.heap.get? b = some o) → R (.ok (.ret .none)) s') →
      codeAny (model P w) A (.builtin "set.update.loop" ⟨[.ref S, .ref I], []⟩) R s := by
  have hSw : S ∉ wr := fun z => hS (W.sub _ z)
  have up : ∀ b ∈ wr, b ∈ S :: wr := fun b z => List.mem_cons_of_mem _ z
  have still : ∀ {u u' : Shared}, Moved wr G u u' → (∀ b o, g0.get? b = some o → u.heap.get? b = some o) → ∀ b o, g0.get? b = some o → u'.heap.get? b = some o := fun mv kp b o e =>
    mv.heap b o (fun z => by rw [gw b z] at e; cases e) (kp b o e)
  intro m
  induction m with
  | zero =>
    intro i s hm hi st kp ⟨L, es, ep, t, T, pm⟩ fin
    obtain rfl : i = n := by omega
    refine codeAny_builtin F.entry_set_update_loop ?_
    rw [Around.under_plainId F.plain_set_update_loop _]
    show wpAny _ A.in1 (pyNext (.ref I) >>= _) _ _ s
    refine wpAny_bind (W.done s _ _ st fun s' mv => ?_)
    have kp2 := still mv kp
    rw [hn, List.take_length] at pm
    show wpAny _ A.in1 (ret Value.none) _ _ s'
    exact wpAny_pure (fin s' L es ep t (mv.mono up) (T.on (fun o e => mv.heap S o hSw e) fun p hp => isT_keep (hk p (pm.mem_iff.mp hp)) kp2) pm kp2)
  | succ m ih =>
    intro i s hm hi st kp ⟨L, es, ep, t, T, pm⟩ fin
    have lt : i < n := by omega
    have ik : i < ks.length := hn ▸ lt
    refine codeAny_builtin F.entry_set_update_loop ?_
    rw [Around.under_plainId F.plain_set_update_loop _]
    show wpAny _ A.in1 (pyNext (.ref I) >>= _) _ _ s
    refine wpAny_bind (W.item i s _ _ lt st fun v s' hv st' mv => ?_)
    obtain ⟨p, hp, rfl⟩ := val i v hv
    have kp2 := still mv kp
    have T2 : TSet P w s'.heap S L es ep t := T.on (fun o e => mv.heap S o hSw e) fun q hq => isT_keep (hk q (List.mem_of_mem_take (pm.mem_iff.mp hq))) kp2
    have hx : IsT P w s'.heap p.2 p.1 := isT_keep (hk p (List.mem_of_getElem? hp)) kp2
    have other : ∀ q ∈ L, q.2 ≠ p.2 := fun q hq e => by
      obtain ⟨j, hj, ej⟩ := List.mem_take_iff_getElem.mp (pm.mem_iff.mp hq)
      obtain ⟨_, ep'⟩ := List.getElem?_eq_some_iff.mp hp
      have jl : j < ks.length := by omega
      have := List.pairwise_iff_getElem.mp nd j i (by rw [List.length_map]; exact jl) (by rw [List.length_map]; exact ik) (by omega)
      rw [List.getElem_map, List.getElem_map] at this
      exact this (by rw [ej, ep', e])
    have ll : L.length = i := by rw [pm.length_eq, List.length_take]; omega
    show wpAny _ A.in1 (holding [Value.ref p.1] (setAdd S (.ref p.1)) >>= _) _ _ s'
    refine wpAny_bind (wpAny_holding ?_)
    unfold setAdd
    refine wpAny_holding ?_
    refine wpAny_bind (wpAny_pyHash_tuple hu hx ?_)
    refine put_new (s := { s' with toks := s'.toks + (p.2.length + 1) }) T2 hx hu other (by omega) fun b h' L' es' ep' t' sb T3 pm3 => ?_
    have kp3 : ∀ b o, g0.get? b = some o → h'.get? b = some o := fun b o e => (sb.2 b (fun z => by rw [z, gS] at e; cases e)).trans (kp2 b o e)
    refine wpAny_pure ⟨plainId_quiet F.plain_set_update_loop _, ih (i + 1) _ (by omega) lt (W.frame _ s' _ _ st' (Nat.le_add_right _ _) fun b hb o e => ?_) kp3 ⟨L', es', ep', t', T3, ?_⟩ fun s2 L2 es2 ep2 t2 mv2 T4 pm4 kp4 => ?_⟩
    · rw [sb.2 b (fun z : b = S => hS (by rw [← z]; exact hb))]; exact e
    · refine pm3.trans ?_
      rw [take_next hp]
      exact (pm.cons p).trans (List.perm_append_singleton p _).symm
    · refine fin s2 L2 es2 ep2 t2 (Moved.trans W.gtrans ((mv.mono up).then_heap (Nat.le_add_right _ _) fun b o hb e => ?_) mv2) T4 pm4 kp4
      rw [sb.2 b (fun z : b = S => hb (by rw [z]; exact List.mem_cons_self))]; exact e
set_option maxRecDepth 100000 in
set_option maxHeartbeats 3200000 in
/-- set(xs) -/
theorem set_of_tuples {l : Addr} {its : Array Value} (ks : List (Addr × List Int)) {Q : Value → Shared → Prop} (hh : A.handled = none) (hl : s.heap.IsList l its) (hi : its.toList = ks.map fun p => Value.ref p.1)
    (hk : ∀ p ∈ ks, IsT P w s.heap p.2 p.1) (few : ks.length ≤ 9000) (nd : (ks.map (·.2)).Nodup) (hu : A.units + 3 < cLine)
    (h : ∀ (H : Heap) (k : Nat) L es ep t, TSet P w H s.heap.objs.size L es ep t → L.Perm ks → (∀ b o, s.heap.get? b = some o → H.get? b = some o) → Q (.ref s.heap.objs.size) { s with heap := H, toks := k }) :
    wpAny (model P w) A (call (.type "set") [.ref l]) Q E s := by
  have nlen : its.size = ks.length := by rw [← Array.length_toList, hi, List.length_map]
  obtain ⟨c0, t0, mro0⟩ := F.called_set.mro
  have made0 := F.called_set.made
  have sub0 := F.called_set.sub
  have ty0 := F.called_set.notType
  have can0 := F.called_set.canCreate
  have tc0 := F.typeCall_set_1 (.ref l)
  have init0 := F.called_set.init.lookup
  have bind0 := F.called_set.init.bind (.ref s.heap.objs.size)
  refine wpAny_call (codeAny_of_tree ?_)
  show wpAny _ _ (callAny (.type "set") _) _ _ _
  refine wpAny_pure ⟨Code.quiet_builtin _ (by decide +kernel), ?_⟩
  refine codeAny_builtin F.entry_type_call ?_
  rw [Around.under_plain (weight_type_call_type "set" [.ref l] []) rfl]
  repeat (any_goals (first | assumption | wp_step))
  have nw := code_set_led1 (P := P) (w := w) (A := A.in1) (s := s) (E := E) (.ref l) (Q₁ := fun v t => v = .ref s.heap.objs.size ∧ t = { s with heap := s.heap.push (noSet3 w) }) ⟨rfl, rfl⟩
  refine codeAny_mono nw fun r t hr => ?_
  rcases r with e | fl
  · exact hr
  rcases fl with _ | _ | _ | v
  all_goals (try exact hr.elim)
  obtain ⟨rfl, rfl⟩ := hr
  have at1 : (s.heap.push (noSet3 w)).get? s.heap.objs.size = some (noSet3 w) := Heap.get?_push_size _ rfl
  have ty1 : Shared.TypeIs { s with heap := s.heap.push (noSet3 w) } (.ref s.heap.objs.size) "set" := ⟨_, at1, rfl⟩
  repeat (any_goals (first | assumption | wp_step))
  have fill : codeAny (model P w) A.in1 (.call (.builtin "set.__init__") ⟨[.ref s.heap.objs.size, .ref l], []⟩) (wants (fun r t => r = .none ∧ ∃ H k L es ep u, t = { s with heap := H, toks := k } ∧ TSet P w H s.heap.objs.size L es ep u ∧ L.Perm ks ∧ (∀ b o, s.heap.get? b = some o → H.get? b = some o)) E) { s with heap := s.heap.push (noSet3 w) } := by
    refine codeAny_call_builtin F.called_set.init.plain F.entry_set_init (check_set_init_1 ty1 ?_)
    obtain ⟨⟨oc, od, odt, osl⟩, at0, c1, n1, d1⟩ := hl
    simp only at c1 d1
    subst c1
    subst d1
    have at2 := Heap.get?_push_of_some (noSet3 w) at0
    have isl : (s.heap.push (noSet3 w)).IsList l its := ⟨_, at2, rfl, n1, rfl⟩
    have no1 := F.sub_list_set
    have no2 := F.sub_list_frozenset
    have no3 : (Value.type "list" == Value.type "dict") = false := by decide
    unfold Builtin.«set.__init__» noKeywords Builtin.Frozenset.updateFrom
    generalize hit : pyIter = it
    wp_walk
    subst hit
    refine wpAny_pyIter_list isl ?_
    refine wpAny_bind (wpAny_runValue ?_)
    have lS : l < s.heap.objs.size := Heap.lt_size at0
    have hh3 : A.in1.in1.in1.handled = none := by simp [hh]
    have sz : (s.heap.push (noSet3 w)).objs.size = s.heap.objs.size + 1 := Heap.size_push ..
    have ne1 : l ≠ (s.heap.push (noSet3 w)).objs.size := by rw [sz]; exact Nat.ne_of_lt (Nat.lt_succ_of_lt lS)
    have ne2 : s.heap.objs.size ∉ [(s.heap.push (noSet3 w)).objs.size, l] := fun z => by
      rcases List.mem_cons.mp z with z | z
      · exact absurd (z.trans sz) (Nat.ne_of_lt (Nat.lt_succ_self _))
      · exact absurd (List.mem_singleton.mp z) (Nat.ne_of_gt lS)
    have vals : ∀ (i : Nat) (v : Value), its[i]? = some v → ∃ p, ks[i]? = some p ∧ v = .ref p.1 := fun i v hv => by
      rw [← Array.getElem?_toList, hi, List.getElem?_map] at hv
      obtain ⟨p, hp, e⟩ := Option.map_eq_some_iff.mp hv
      exact ⟨p, hp, e.symm⟩
    have free : ∀ b, s.heap.objs.size ≤ b → s.heap.get? b = none := fun b hb => by
      cases q : s.heap.get? b with
      | none => rfl
      | some o => exact absurd (Nat.lt_of_lt_of_le (Heap.lt_size q) hb) (Nat.lt_irrefl _)
    have W := (Walks.list hh3 (prog := P) (w := w) _ l ne1 its).toS
    refine fill_new W s.heap.objs.size ne2 ks nlen few nd vals s.heap hk (free _ (Nat.le_refl _)) (fun b hb => free b (by rw [List.mem_singleton.mp hb, sz]; exact Nat.le_succ _)) hu (its.size - 0) 0 _ (by omega) (Nat.zero_le _)
      ⟨⟨_, Heap.get?_push_size _ rfl, rfl, rfl⟩, isl.push _⟩ (fun b o e => Heap.get?_push_of_some _ (Heap.get?_push_of_some _ e)) ⟨[], #[], 0, _, tset_none (Heap.get?_push_of_some _ at1), List.Perm.refl _⟩ fun t L es ep u hm hT pm kp => ?_
    obtain ⟨H, g, d, k, os⟩ := t
    obtain rfl : g = s.gens := hm.gens
    obtain rfl : d = s.drawn := hm.drawn
    obtain rfl : os = s.os := hm.os
    show wpAny _ _ _ _ _ _
    refine wpAny_pure ?_
    show wpAny _ _ (ret Value.none) _ _ _
    exact wpAny_pure ⟨rfl, H, k, L, es, ep, u, rfl, hT, pm, kp⟩
  refine codeAny_mono fill fun r t hr => ?_
  rcases r with e | fl
  · exact hr
  rcases fl with _ | _ | _ | v
  all_goals (try exact hr.elim)
  obtain ⟨rfl, H, k, L, es, ep, u, rfl, hT, pm, kp⟩ := hr
  repeat (any_goals (first | assumption | wp_step))
  exact h _ _ _ _ _ _ hT pm kp
end
end R

/-! ## sorted(set(xs)), xs a list of tuples of ints that are all unlike: gathered and sorted -/
namespace R
open PySem PySem.Spec PyProof.Rows L2
open PySem.W (Frag EachIs AllAlike Sortable list_sort_data)
/-- a list with nothing in it -/
abbrev noList : Obj := { cls := .type "list", data := .seq ([] : List Value).toArray }
section
variable {P : Program} {w : World} {A : Around} {E : Value → Shared → Prop} {s : Shared} {a : Addr} {es : Array (Int × Value)} {ep : Nat} {t : SetTable}
/-- iter of a set whose table is plain -/
theorem iter_plain {Q : Value → Shared → Prop} (ha : SetAt s.heap a es ep t) (hf : t.fits es.size = true) (pl : t.plain = true) (r : Ris t.place.toList) (ld : w.params.followText "set-order" = true ∨ t.led = true)
    (q : ∀ s2 I, SetIt P w s a es s2 I → Q (.ref I) s2) : wpAny (model P w) A (pyIter (.ref a)) Q E s := by
  obtain ⟨o, ho, hc, hd⟩ := id ha
  have ty : s.TypeIs (.ref a) "set" := ⟨o, ho, hc⟩
  have ne : a ≠ s.heap.objs.size := Nat.ne_of_lt (Heap.lt_size ho)
  have no : (!w.params.followText "set-order" && (!t.plain && decide (es.size > 1))) = false := by
    rw [pl]
    simp
  have fp : ∀ b ∈ [s.heap.objs.size, a], b = a ∨ s.heap.objs.size ≤ b := fun b hb => by
    rcases List.mem_cons.mp hb with z | z
    · exact .inr (Nat.le_of_eq z.symm)
    · exact .inl (List.mem_singleton.mp z)
  refine wpAny_pyIter_slot ty F.slot_set_iter (wpAny_call_entry F.slot_set_iter ty entry_s_iter ?_ (F.args_set_iter_1 _))
  unfold Builtin.«frozenset.__iter__»
  refine wpAny_bind (m := Builtin.Frozenset.slot0 "__iter__" _) (wpAny_of_eq (a := a) (by rfl) ?_)
  refine wpAny_bind (m := Builtin.Frozenset.sizeOf a) ?_
  unfold Builtin.Frozenset.sizeOf
  refine wpAny_bind (wpAny_setEntries_of ho hd hf (wpAny_pure ?_))
  first | refine wpAny_bind (setDrawn_at ha hf ?_) | refine wpAny_bind (wpAny_bind (setDrawn_at ha hf ?_))
  rw [no]
  refine wp_if_neg Bool.false_ne_true ?_
  first | refine wpAny_bind (wpAny_pure ?_) | refine wpAny_pure ?_
  refine wpAny_bind (wpAny_setEpoch_of ho hd hf ?_)
  refine wpAny_bind (wpAny_newObj_type (wpAny_pure ⟨_, rfl, "set_iterator", _, ⟨_, Heap.get?_push_size _ rfl, rfl⟩, slot_si_next.lookup, ?_⟩))
  cases hb : w.params.followText "set-order" with
  | true =>
    have pm := pick_perm (w.params.setOrder a ep) es
    refine q _ _ (SetIt.of (out := (pickOrder (w.params.setOrder a ep) es).toList.map (·.2)) (fun A' hA => walks_text (P := P) (ep := ep) hA ne hf hb) (by rw [List.length_map, Array.length_toList]) (fun b u e => Heap.get?_push_of_some _ e) rfl rfl rfl (Nat.le_refl _) fp (pm.map _)
      (fun j v z => by rw [List.getElem?_map, Array.getElem?_toList]; exact z) ⟨⟨_, Heap.get?_push_size _ rfl, rfl, rfl⟩, ha.at fun u e => Heap.get?_push_of_some _ e⟩)
  | false =>
    have led : t.led = true := ld.resolve_left (by rw [hb]; exact Bool.false_ne_true)
    refine q _ _ (SetIt.of (out := es.toList.map (·.2)) (fun A' hA => walks_led (P := P) (ep := ep) hA ne hf r hb (by rw [pl]; rfl) led) (by rw [List.length_map, Array.length_toList]) (fun b u e => Heap.get?_push_of_some _ e) rfl rfl rfl (Nat.le_refl _) fp (List.Perm.refl _)
      (fun j v z => by rw [List.getElem?_map, Array.getElem?_toList]; exact z) ⟨⟨_, Heap.get?_push_size _ rfl, rfl, rfl⟩, ha.at fun u e => Heap.get?_push_of_some _ e⟩)
/-- the members of a set whose table is plain, gathered -/
theorem gather_plain {Q : List Value → Shared → Prop} (hh : A.handled = none) (ha : SetAt s.heap a es ep t) (hf : t.fits es.size = true) (pl : t.plain = true) (sz : es.size ≤ sizeLine) (r : Ris t.place.toList)
    (ld : w.params.followText "set-order" = true ∨ t.led = true)
    (q : ∀ s' out, (∀ b o, s.heap.get? b = some o → s'.heap.get? b = some o) → s.heap.objs.size ≤ s'.heap.objs.size → s'.gens = s.gens → s'.os = s.os → out.Perm (es.toList.map (·.2)) → Q out s') :
    wpAny (model P w) A (collect (.ref a)) Q E s := by
  obtain ⟨o, ho, hc, hd⟩ := id ha
  have lt : a < s.heap.objs.size := Heap.lt_size ho
  have Sa : s.heap.objs.size ≠ a := Nat.ne_of_gt lt
  unfold collect
  refine wpAny_bind (wpAny_runValue (codeAny_builtin F.entry_proto_collect ?_))
  rw [Around.under_plainId F.plain_proto_collect _]
  show wpAny _ A.in1 (newList [] >>= fun l => again (.builtin "list.__iadd__" ⟨[l, .ref a], []⟩)) _ _ s
  refine wpAny_bind (wpAny_newObj_type ?_)
  refine wpAny_pure ⟨plainId_quiet F.plain_list_iadd _, codeAny_builtin F.entry_list_iadd ?_⟩
  rw [Around.under_plainId F.plain_list_iadd _]
  have S0 : (s.heap.push noList).get? s.heap.objs.size = some noList := Heap.get?_push_size _ rfl
  have a1 : SetAt (s.heap.push noList) a es ep t := ha.at fun u e => Heap.get?_push_of_some _ e
  have z1 : (s.heap.push noList).objs.size = s.heap.objs.size + 1 := size_push' _ _
  show wpAny _ A.in1 (Builtin.List.listExtendWith (.ref s.heap.objs.size) (.ref a) (.ref s.heap.objs.size)) _ _ _
  unfold Builtin.List.listExtendWith
  refine wpAny_bind (wpAny_typeOf (T := "set") ⟨o, Heap.get?_push_of_some _ ho, hc⟩ ?_)
  have n1 : Builtin.List.listSameRef (.ref s.heap.objs.size) (.ref a) = false := by simp [Builtin.List.listSameRef, Sa]
  have n2 : (Value.type "set" == Value.type "list") = false := by decide
  have n3 : (Value.type "set" == Value.type "tuple") = false := by decide
  simp only [n1, n2, n3, Bool.or_false, Bool.false_eq_true, if_false]
  refine wpAny_bind (iter_plain (s := { s with heap := s.heap.push noList }) a1 hf pl r ld fun s2 I it => ?_)
  obtain ⟨fp, St, out, Pv, k2, g2, o2, _, hI, hfp, pm, hW, hPv, st⟩ := it
  have hI2 : s.heap.objs.size + 1 ≤ I := by rw [← z1]; exact hI
  have Sf : s.heap.objs.size ∉ fp := fun z => by
    rcases hfp _ z with y | y
    · exact Sa y
    · have y : s.heap.objs.size + 1 ≤ s.heap.objs.size := by rw [← z1]; exact y
      omega
  have ty2 : s2.TypeIs (.ref a) "set" := ⟨o, k2 a o (Heap.get?_push_of_some _ ho), hc⟩
  refine wpAny_bind (wpAny_holding ?_)
  unfold Builtin.List.listLengthHint
  refine wpAny_bind (wpAny_specialOf ty2 F.slot_set_len.lookup ?_)
  (generalize hid : ("set.__len__" : String) = id0; (fail_if_success (clear hid id0)); wp_delta; rw [show splitId id0 = some ("set", "__len__") from by subst hid; decide +kernel]; subst hid)
  refine wpAny_bind (wpAny_isInstance (b := true) ty2 sub_set_self ?_)
  show wpAny _ A.in1 (typeOf (.ref a) >>= _) _ _ _
  refine wpAny_bind (wpAny_typeOf ty2 ?_)
  refine wpAny_pure ?_
  show wpAny _ A.in1 (rule "list.extend.makes-room" >>= fun _ => Builtin.List.listTouch (.ref s.heap.objs.size) >>= fun _ =>
    again (.builtin "list.extend.loop" ⟨[.ref s.heap.objs.size, .ref I, .ref s.heap.objs.size], []⟩)) _ _ _
  refine wpAny_bind (wpAny_rule ?_)
  have S2 := k2 _ _ S0
  refine wpAny_bind ?_
  show wpAny _ A.in1 (updateSeq s.heap.objs.size (·.push .none) >>= fun _ => updateSeq s.heap.objs.size (·.pop)) _ _ _
  refine wpAny_bind (wpAny_updateSeq S2 rfl ?_)
  have S3 := Heap.get?_update_self (Obj.mapSeq (·.push Value.none)) S2 rfl
  refine wpAny_updateSeq S3 rfl ?_
  have S4 := Heap.get?_update_self (Obj.mapSeq (·.pop)) S3 rfl
  have oth : ∀ b u, b ≠ s.heap.objs.size → s2.heap.get? b = some u → ((s2.heap.update s.heap.objs.size (Obj.mapSeq (·.push Value.none))).update s.heap.objs.size (Obj.mapSeq (·.pop))).get? b = some u :=
    fun b u hb e => (Heap.get?_update_other _ _ (Ne.symm hb)).trans ((Heap.get?_update_other _ _ (Ne.symm hb)).trans e)
  have lim : out.length ≤ sizeLine := by rw [pm.length_eq, List.length_map, Array.length_toList]; exact sz
  have W := hW A.in1 hh
  have st2 : St 0 ((s2.heap.update s.heap.objs.size (Obj.mapSeq (·.push Value.none))).update s.heap.objs.size (Obj.mapSeq (·.pop))) :=
    W.frame 0 _ _ st fun b hb u e => oth b u (fun z => Sf (z ▸ hb)) e
  refine wpAny_pure ⟨plainId_quiet F.plain_extend_loop _, codeAny_extend_loopS W.toS lim _ Sf _ out.length 0 _ _ _ rfl (Nat.zero_le _) st2 S4 (ItemsOf.nil Pv) fun s' acc c mv S5 got => ?_⟩
  show wpAny _ A (load s.heap.objs.size >>= _) _ _ s'
  refine wpAny_bind (wpAny_load S5 ?_)
  refine wpAny_pure ?_
  show Q acc.toList s'
  rw [items_out got hPv]
  refine q s' out (fun b u e => ?_) (Nat.le_of_lt (Heap.lt_size S5)) (Eq.trans mv.gens g2) (Eq.trans mv.os o2) pm
  have bl : b < s.heap.objs.size := Heap.lt_size e
  refine mv.heap b u (fun z => ?_) (oth b u (Nat.ne_of_lt bl) (k2 b u (Heap.get?_push_of_some _ e)))
  rcases List.mem_cons.mp z with z | z
  · rw [z] at bl
    exact Nat.lt_irrefl _ bl
  · rw [List.mem_singleton.mp z] at bl
    exact Nat.lt_irrefl _ (Nat.lt_trans bl (Nat.lt_of_succ_le hI2))
theorem refs_perm {L : List (Addr × List Int)} (one : ∀ q ∈ L, ∀ r ∈ L, q.1 = r.1 → q = r) : ∀ {M N : List (Addr × List Int)}, (∀ q ∈ M, q ∈ L) → (∀ q ∈ N, q ∈ L) → (M.map fun q => Value.ref q.1).Perm (N.map fun q => Value.ref q.1) → M.Perm N
  | [], N, _, _, pm => by
    have := pm.length_eq
    rw [List.length_map, List.length_map] at this
    rw [List.eq_nil_of_length_eq_zero this.symm]
  | q :: M, N, hM, hN, pm => by
    have hq : Value.ref q.1 ∈ N.map fun q => Value.ref q.1 := pm.mem_iff.mp List.mem_cons_self
    obtain ⟨r, hr, e⟩ := List.mem_map.mp hq
    injection e with e
    have e := one r (hN r hr) q (hM q List.mem_cons_self) e
    subst e
    have p1 := List.perm_cons_erase hr
    have p2 := p1.map fun q : Addr × List Int => Value.ref q.1
    have p3 := (pm.trans p2).cons_inv
    exact ((refs_perm one (fun x hx => hM x (List.mem_cons_of_mem _ hx)) (fun x hx => hN x (List.mem_of_mem_erase hx)) p3).cons r).trans p1.symm
theorem reads_ints {h : Heap} : ∀ {k : List Int} {vs : List Value}, IntsAre vs k → ReadsAll h vs (k.map .int) []
  | _, _, .nil => .nil
  | _, _, .cons k t r => .cons (.int k t) (reads_ints r)
theorem reads_T {h : Heap} {k : List Int} {b : Addr} (x : IsT P w h k b) : Reads h (.ref b) (.tuple (k.map .int)) [] := by
  obtain ⟨o, its, n, ho, hc, hd, hi⟩ := x
  exact .tuple ho hc hd (reads_ints (ints_of_items hi))
/-- sorted(a set of tuples) -/
theorem sorted_plain {L : List (Addr × List Int)} {Q : Value → Shared → Prop} (T : TSet P w s.heap a L es ep t) (hh : A.handled = none) (ne : ∀ p ∈ L, p.2 ≠ []) (few : L.length ≤ 9000) (hu : A.units + 64 < cLine)
    (q : ∀ s' p (out : Array Value) (c : Nat) (L' : List (Addr × List Int)), (∀ b o, s.heap.get? b = some o → s'.heap.get? b = some o) → s'.gens = s.gens → s'.os = s.os → s.heap.objs.size ≤ p →
      s'.heap.get? p = some (seqObj "list" out c) → out.toList = L'.map (fun q => Value.ref q.1) → L'.Perm L → (L'.map (·.2)).Pairwise (· ≤ ·) → Q (.ref p) s') :
    wpAny (model P w) A (call (.builtin "sorted") [.ref a]) Q E s := by
  obtain ⟨o, ho, hex, hd⟩ := T.at_
  have sz := T.len
  refine Calls.call_function_entry kind_sorted plain_sorted entry_sorted (args_sorted1 _) ?_
  unfold Builtin.«sorted»
  refine wpAny_bind (m := checkCount "sorted" 1 1 _) (wpAny_pure ?_)
  refine wpAny_bind (gather_plain (A := A.in1) hh ⟨o, ho, hex.1, hd⟩ T.fit T.pl (by rw [sz, sizeLine_eq]; omega) T.tab.ris T.ld fun s1 vs k1 hz g1 o1 pm => ?_)
  have pm : vs.Perm (L.map fun q => Value.ref q.1) := by
    rw [T.held] at pm
    unfold rowsOf at pm
    rw [List.map_map] at pm
    exact pm
  have back : ∀ us : List Value, (∀ v ∈ us, ∃ q ∈ L, v = Value.ref q.1) → ∃ M : List (Addr × List Int), us = M.map (fun q => Value.ref q.1) ∧ ∀ q ∈ M, q ∈ L := fun us => by
    induction us with
    | nil => exact fun _ => ⟨[], rfl, fun q z => absurd z List.not_mem_nil⟩
    | cons v us ih =>
      intro hv
      obtain ⟨q, hq, e⟩ := hv v List.mem_cons_self
      obtain ⟨M, e1, hs⟩ := ih fun u z => hv u (List.mem_cons_of_mem _ z)
      refine ⟨q :: M, by rw [List.map_cons, e, e1], fun r hr => ?_⟩
      rcases List.mem_cons.mp hr with z | z
      · rw [z]; exact hq
      · exact hs r z
  obtain ⟨M, rfl, hM⟩ := back vs fun v hv => by
    obtain ⟨q, hq, e⟩ := List.mem_map.mp (pm.mem_iff.mp hv)
    exact ⟨q, hq, e.symm⟩
  have one : ∀ q ∈ L, ∀ r ∈ L, q.1 = r.1 → q = r := fun q hq r hr e => by
    have a1 := T.keys q hq
    have a2 := T.keys r hr
    rw [e] at a1
    exact Prod.ext e (a1.inj a2)
  have pM : M.Perm L := refs_perm one hM (fun q h => h) pm
  have lM : M.length = L.length := pM.length_eq
  refine wpAny_bind (wpAny_newList ?_ (by rw [List.length_map, lM, sizeLine_eq]; omega))
  have at1 : (s1.heap.push (seqObj "list" (M.map fun q => Value.ref q.1).toArray 0)).get? s1.heap.objs.size = some (seqObj "list" (M.map fun q => Value.ref q.1).toArray 0) := Heap.get?_push_size _ rfl
  refine wpAny_bind (wpAny_holding (list_sort_data (s := { s1 with heap := s1.heap.push (seqObj "list" (M.map fun q => Value.ref q.1).toArray 0) }) (R := isRef) (enc := encT) (bs := M) at1 (each_refs fun _ _ => rfl)
    (each_refs fun x hx => ⟨[], reads_T (isT_keep (T.keys x (hM x hx)) fun b u e => Heap.get?_push_of_some _ (k1 b u e)), List.not_mem_nil⟩) (alike_T M) (sortable_T fun x hx => ne x (hM x hx)) (by rw [lM, sizeLine_eq]; omega)
    (fun b _ => by have := depth_T b; have e : A.in1.units = A.units + 1 := rfl; omega) fun out lo eo => ?_))
  rw [dataLe_T] at eo
  obtain rfl := each_isRef eo
  obtain ⟨c, hc⟩ := sortedHeap_at (vs := M.map fun q => Value.ref q.1) (out := ((M.mergeSort leT).map fun q => Value.ref q.1).toArray) at1
  refine wpAny_pure ⟨_, rfl, q _ s1.heap.objs.size _ c (M.mergeSort leT) (fun b u e => ?_) g1 o1 hz hc (by simp) ((List.mergeSort_perm M leT).trans pM) (sort_T M)⟩
  have e2 := k1 b u e
  have lt := Heap.lt_size e2
  show (sortedHeap (s1.heap.push _) s1.heap.objs.size _ _).get? b = some u
  rw [sortedHeap_old (Nat.ne_of_lt lt) (by rw [size_push']; exact Nat.lt_succ_of_lt lt)]
  exact Heap.get?_push_of_some _ e2
end
end R

/-! ## the expression sorted(set(xs)) -/
namespace R
open PySem PySem.Spec PyProof.Rows L2
open PySem.W (Frag)
section
variable {X : Cx}
/-- sorted(set(xs)), xs a list of tuples of ints that are all unlike: the same tuples, ascending -/
def tSortSet (K : Frag) (ta : TE) : TE := fun σ H Q => ta σ H fun x H1 => ∃ (l : Addr) (ks : List (Addr × List Int)), x = V.ref l ∧ SqL K H1 l (refs ks) ∧ (∀ p ∈ ks, SqT K H1 p.1 (p.2.map V.int) ∧ p.2 ≠ []) ∧ ks.length ≤ 9000 ∧
  (ks.map (·.2)).Nodup ∧ ∀ (q : Addr) (ms : List (Addr × List Int)), ms.Perm ks → (ms.map (·.2)).Pairwise (· ≤ ·) → H1 q = none → Q (.ref q) (upd H1 q (.lst (refs ms)))
theorem pe_sortSet {a : Expr} {ta : TE} {p p2 q pos : Pos} (hc : X.calm = true) (hu : X.A.units + 64 < cLine) (hg : Gl X "sorted") (hm : X.mg "sorted" = none) (hg2 : Gl X "set") (hm2 : X.mg "set" = none) (ha : PE X a ta)
    (na : starEach [a] X.env = (false, eval a X.env) :: starEach [] X.env := by rfl) : PE X (.Call (.Name "sorted" p) [.Call (.Name "set" p2) [a] [] q] [] pos) (tSortSet X.K ta) := by
  refine ⟨fun pins s σ H Q I h => ?_⟩
  refine Call_ (ld_blt I hg hm PyProof.Rows.boot_sorted ?_)
  refine PyProof.Rows.callWith_builtin1 (PyProof.Rows.args_cons ?_ rfl) rfl rfl
  refine Call_ (ld_blt I hg2 hm2 PyProof.Rows.boot_set ?_)
  refine PyProof.Rows.callWith_type1 (PyProof.Rows.args_cons (thn (ha.run pins s σ H _ I h) fun v s1 ⟨x, H1, I1, r1, q1⟩ => PyProof.Rows.args_nil ?_) na) na rfl
  obtain ⟨l, ks, rfl, hs, hk, few, nd, q1⟩ := q1
  cases r1
  obtain ⟨its, rv, pl, hz⟩ := I1.list hs
  have ei := vals_refs rv
  subst ei
  refine set_of_tuples (P := X.prog) (w := X.w) ks (I1.ok.hd hc) pl.isList rfl (fun p hp => I1.isT (hk p hp).1) few nd (by omega) fun h' tk L es ep t T pm kp => ?_
  have I2 : Inv X pins σ H1 { s1 with heap := h', toks := tk } := I1.kept kp
  refine PyProof.Rows.args_nil ?_
  refine sorted_plain (s := { s1 with heap := h', toks := tk }) T (I2.ok.hd hc) (fun p hp => (hk p (pm.mem_iff.mp hp)).2) (by rw [pm.length_eq]; exact few) hu fun t2 p' out c ms k g o hp hg' hout pm2 up => ?_
  have hn : H1 p' = none := I2.hok.fresh hp
  have len : (refs ms).length ≤ sizeLine := by
    unfold refs
    rw [List.length_map, pm2.length_eq, pm.length_eq, sizeLine_eq]
    omega
  have J : Inv X pins σ (upd H1 p' (.lst (refs ms))) { ({ s1 with heap := h', toks := tk } : Shared) with heap := t2.heap, gens := t2.gens, drawn := t2.drawn, toks := t2.toks } :=
    I2.call (ch := []) (Un.laid k hp hn) (I2.hok.laid k hp ⟨len, out.toList, c, by rw [hout]; exact refs_vals ms, hg'⟩) (by rw [g]; exact I2.bare) (fun _ z => nomatch z)
  have e : t2 = { s1 with heap := t2.heap, gens := t2.gens, drawn := t2.drawn, toks := t2.toks } := by
    cases t2
    cases s1
    cases o
    rfl
  rw [e]
  exact ⟨.ref p', _, J, rfl, q1 p' ms (pm2.trans pm) up hn⟩
end
end R

/-! ## the tricks that are told, as rows: ascending, no two alike -/
namespace R
open PySem PySem.Spec PyProof.Rows L2
open PySem.W (Frag)
theorem u65 {A : Around} {k : Nat} (hr : Room k A) : A.units + 65 < cLine := by have := hr.un; omega
theorem tms_up : ∀ n : Nat, (tms n).Pairwise (· < ·) := fun n => by
  unfold tms
  rw [List.pairwise_map]
  refine (List.pairwise_lt_range (n := n)).imp fun {x y} h => ?_
  omega
theorem lt3 {b k t b' k' t' : Int} : ([b, k, t] : List Int) < [b', k', t'] ↔ b < b' ∨ b = b' ∧ (k < k' ∨ k = k' ∧ t < t') := by
  rw [List.cons_lt_cons_iff, List.cons_lt_cons_iff, List.cons_lt_cons_iff]
  simp
theorem fitB_is {l : List (Int × Int)} {b k : Int} {x : List Int} : x ∈ fitB l b k ↔ ∃ t, x = [b, k, t] ∧ (-100 ≤ t ∧ t ≤ 100) ∧ goodT (b ^ k.toNat) l t = true := by
  unfold fitB facs
  rw [List.mem_map]
  constructor
  · rintro ⟨t, h, rfl⟩
    rw [List.mem_filter, tms_mem] at h
    exact ⟨t, rfl, h⟩
  · rintro ⟨t, rfl, h1, h2⟩
    exact ⟨t, List.mem_filter.mpr ⟨tms_mem.mpr h1, h2⟩, rfl⟩
theorem fitRow_is {l : List (Int × Int)} {b : Int} {x : List Int} : ∀ {j : Nat}, x ∈ fitRow l b j ↔ ∃ k t, x = [b, k, t] ∧ (1 ≤ k ∧ k ≤ (j : Int)) ∧ (-100 ≤ t ∧ t ≤ 100) ∧ goodT (b ^ k.toNat) l t = true
  | 0 => ⟨fun h => (by cases h), fun ⟨_, _, _, h, _⟩ => (by omega)⟩
  | j + 1 => by
    rw [fitRow, List.mem_append, fitRow_is, fitB_is]
    constructor
    · rintro (⟨k, t, rfl, h1, h2⟩ | ⟨t, rfl, h2⟩)
      · exact ⟨k, t, rfl, by omega, h2⟩
      · exact ⟨_, t, rfl, by omega, h2⟩
    · rintro ⟨k, t, rfl, h1, h2⟩
      by_cases c : k ≤ (j : Int)
      · exact .inl ⟨k, t, rfl, ⟨h1.1, c⟩, h2⟩
      · obtain rfl : k = 1 + (j : Int) := by omega
        exact .inr ⟨t, rfl, h2⟩
theorem fitAll_is {l : List (Int × Int)} {x : List Int} : ∀ {i : Nat}, x ∈ fitAll l i ↔ ∃ b k t, x = [b, k, t] ∧ (2 ≤ b ∧ b < 2 + (i : Int)) ∧ (1 ≤ k ∧ k ≤ 2) ∧ (-100 ≤ t ∧ t ≤ 100) ∧ goodT (b ^ k.toNat) l t = true
  | 0 => ⟨fun h => (by cases h), fun ⟨_, _, _, _, h, _⟩ => (by omega)⟩
  | i + 1 => by
    rw [fitAll, List.mem_append, fitAll_is, fitRow_is]
    constructor
    · rintro (⟨b, k, t, rfl, h1, h2⟩ | ⟨k, t, rfl, h2⟩)
      · exact ⟨b, k, t, rfl, by omega, h2⟩
      · exact ⟨_, k, t, rfl, by omega, h2⟩
    · rintro ⟨b, k, t, rfl, h1, h2⟩
      by_cases c : b < 2 + (i : Int)
      · exact .inl ⟨b, k, t, rfl, ⟨h1.1, c⟩, h2⟩
      · obtain rfl : b = 2 + (i : Int) := by omega
        exact .inr ⟨k, t, rfl, h2⟩
theorem fitB_up (l : List (Int × Int)) (b k : Int) : (fitB l b k).Pairwise (· < ·) := by
  unfold fitB facs
  rw [List.pairwise_map]
  exact ((tms_up 201).filter _).imp fun h => lt3.mpr (.inr ⟨rfl, .inr ⟨rfl, h⟩⟩)
theorem fitRow_up (l : List (Int × Int)) (b : Int) : ∀ j, (fitRow l b j).Pairwise (· < ·)
  | 0 => .nil
  | j + 1 => by
    rw [fitRow, List.pairwise_append]
    refine ⟨fitRow_up l b j, fitB_up l b _, fun x hx y hy => ?_⟩
    obtain ⟨k, t, rfl, h1, _⟩ := fitRow_is.mp hx
    obtain ⟨t', rfl, _⟩ := fitB_is.mp hy
    exact lt3.mpr (.inr ⟨rfl, .inl (by omega)⟩)
theorem fitAll_up (l : List (Int × Int)) : ∀ i, (fitAll l i).Pairwise (· < ·)
  | 0 => .nil
  | i + 1 => by
    rw [fitAll, List.pairwise_append]
    refine ⟨fitAll_up l i, fitRow_up l _ 2, fun x hx y hy => ?_⟩
    obtain ⟨b, k, t, rfl, h1, _⟩ := fitAll_is.mp hx
    obtain ⟨k', t', rfl, _⟩ := fitRow_is.mp hy
    exact lt3.mpr (.inl (by omega))
theorem fitAll_nodup (l : List (Int × Int)) (i : Nat) : (fitAll l i).Nodup := by
  rw [List.nodup_iff_pairwise_ne]
  refine (fitAll_up l i).imp fun {a b} h => ?_
  rintro rfl
  exact List.lt_irrefl _ h
theorem fitAll_le (l : List (Int × Int)) (i : Nat) : (fitAll l i).Pairwise (· ≤ ·) := (fitAll_up l i).imp fun h => List.le_of_lt h
/-- rows as addresses with their numbers -/
theorem rows_ks {H : Hp} : ∀ {xs : List V} {l : List (List Int)}, RowsT H xs l → ∃ ks : List (Addr × List Int), xs = refs ks ∧ ks.map (·.2) = l ∧ ∀ p ∈ ks, H p.1 = some (.tup (p.2.map V.int))
  | [], [], _ => ⟨[], rfl, rfl, fun p h => by cases h⟩
  | [], _ :: _, h => by have := h.1; simp at this
  | _ :: _, [], h => by have := h.1; simp at this
  | x :: xs, n :: l, h => by
    obtain ⟨q, ns, e1, rfl, e3⟩ := h.2 0 x rfl
    cases (show some n = some ns from e1)
    obtain ⟨ks, r1, r2, r3⟩ := rows_ks (H := H) (xs := xs) (l := l) ⟨by have := h.1; simpa using this, fun i y hy => h.2 (i + 1) y hy⟩
    refine ⟨(q, n) :: ks, by rw [r1]; rfl, by rw [← r2]; rfl, fun p hp => ?_⟩
    rcases List.mem_cons.mp hp with rfl | hp
    · exact e3
    · exact r3 p hp
theorem ks_rows {H : Hp} {ks : List (Addr × List Int)} (h : ∀ p ∈ ks, H p.1 = some (.tup (p.2.map V.int))) : RowsT H (refs ks) (ks.map (·.2)) := by
  refine ⟨by unfold refs; rw [List.length_map, List.length_map], fun i x hx => ?_⟩
  unfold refs at hx
  rw [List.getElem?_map] at hx
  obtain ⟨p, hp, rfl⟩ := Option.map_eq_some_iff.mp hx
  exact ⟨p.1, p.2, by rw [List.getElem?_map, hp]; rfl, rfl, h p (List.mem_of_getElem? hp)⟩
section
variable {K : Frag} {H : Hp} {p a b : Addr} {x : List Int} {xs : List V} {l : List (List Int)} {Q : VK}
/-- t not in rows -/
theorem a_ninRows (hx : SqT K H a (x.map V.int)) (h : RowsT H xs l) (hs : SqL K H p xs) (q : Q (.bl (!decide (x ∈ l))) H) : rNotInD K (.ref a) (.ref p) H Q := by
  refine ⟨pyT x, l.map pyT, dp_pyT hx, h.dp hs, shaped_of (can_pyT _) (Nat.le_trans (dep_pyT _) (by decide)), shaped_of (can_pyR l) (Nat.le_trans (dep_pyR l) (by decide)), ?_⟩
  have e : ((l.map pyT).any fun z => PyData.eqv z (pyT x)) = decide (x ∈ l) := by
    rw [Bool.eq_iff_iff, List.any_eq_true, decide_eq_true_iff]
    constructor
    · rintro ⟨z, hz, e⟩
      obtain ⟨y, hy, rfl⟩ := List.mem_map.mp hz
      rw [eqv_pyT] at e
      rw [← of_decide_eq_true e]
      exact hy
    · exact fun h => ⟨_, List.mem_map.mpr ⟨x, h, rfl⟩, by rw [eqv_pyT]; exact decide_eq_true rfl⟩
  rw [e]
  exact q
/-- xs != [], rows -/
theorem a_neRows0 (h : RowsT H xs l) (hs : SqL K H a xs) (gs : SqL K H b []) (q : Q (.bl (!l.isEmpty)) H) : rNeD K (.ref a) (.ref b) H Q := by
  cases l with
  | nil => exact a_neRows h hs (RowsT.nil H) gs q
  | cons x l => exact a_neD' (h.dp hs) ((RowsT.nil H).dp gs) (can_pyR _) (Nat.le_trans (dep_pyR _) (by decide)) (can_pyR []) (by decide) rfl q
end
end R

local macro_rules | `(tactic| walk_at "s") => `(tactic| first
  | with_reducible refine R.a_seq ?_ | with_reducible refine R.a_asg ?_ | with_reducible refine R.a_gname ?_ | ((with_reducible refine' R.a_var ?h1 ?h2); (case h1 => rfl)) | with_reducible refine R.a_c ?_
  | with_reducible refine R.a_op ?_ | with_reducible refine R.a_un ?_ | with_reducible refine R.a_neg ?_ | with_reducible refine R.a_drop ?_ | with_reducible refine R.a_ret ?_ | with_reducible refine R.a_retN ?_
  | with_reducible refine R.a_test ?_ | with_reducible refine R.a_tB ?_ | with_reducible refine R.a_bk ?_ | with_reducible refine R.a_and ?_ | with_reducible refine R.a_or ?_ | with_reducible refine R.a_not ?_
  | with_reducible refine R.a_andV ?_ | with_reducible refine R.a_orV ?_ | with_reducible refine R.a_notV ?_ | with_reducible refine R.a_bv ?_ | with_reducible refine R.a_ifE ?_
  | with_reducible refine R.a_nil ?_ | with_reducible refine R.a_cons ?_ | with_reducible refine R.a_tup ?_ | with_reducible refine R.a_lst ?_ | with_reducible refine R.a_cb ?_ | with_reducible refine R.a_call ?_ | with_reducible refine R.a_chain ?_
  | with_reducible refine R.a_sl ?_ | with_reducible refine R.a_npart ?_ | with_reducible refine R.a_part ?_ | with_reducible refine R.a_ik ?_ | with_reducible refine R.a_gsub ?_ | with_reducible refine R.a_bm ?_ | with_reducible refine R.a_bm0 ?_ | with_reducible refine R.a_par ?_ | with_reducible refine R.a_par2 ?_
  | with_reducible refine R.a_for ?_ | with_reducible refine R.a_rev ?_ | with_reducible refine R.a_iL ?_ | with_reducible refine R.a_iT ?_ | with_reducible refine R.a_enum ?_ | with_reducible refine R.a_lc ?_ | with_reducible refine R.a_rng1 ?_ | with_reducible refine R.a_rng2 ?_ | with_reducible refine R.a_next ?_ | with_reducible refine R.a_yes ?_ | with_reducible refine R.a_gcons ?_ | with_reducible refine R.a_gnil ?_
  | ((with_reducible refine R.a_rng1' ?h1 ?h2 ?h3); (case h1 => omega); (case h2 => omega)) | ((with_reducible refine R.a_rng2' ?h1 ?h2); (case h1 => omega))
  | with_reducible refine R.a_I0 ?_ | with_reducible refine R.a_eqI ?_ | with_reducible refine R.a_neI ?_ | with_reducible refine R.a_isN1 ?_ | with_reducible refine R.a_notN1 ?_
  | ((with_reducible refine R.a_isN0 ?h1 ?h2); (case h1 => (intro z; cases z))) | ((with_reducible refine R.a_notN0 ?h1 ?h2); (case h1 => (intro z; cases z)))
  | with_reducible refine R.a_isiI ?_ | with_reducible refine R.a_isiB ?_
  | ((with_reducible refine R.a_I ?h1 ?h2); (case h1 => first | omega | exact R.mx_l (by omega) (by omega) | exact R.mx_r (by omega) (by omega) | exact R.divW (by omega) (by omega)))
  | with_reducible refine R.a_tt ?_ | with_reducible refine R.a_ff ?_ | with_reducible refine R.a_nt ?_ | with_reducible refine R.a_nf ?_)
-- a test whose answer is known
local macro_rules | `(tactic| walk_at "k") => `(tactic| first
  | ((with_reducible refine R.a_itT ?h1 ?h2); (case h1 => first | assumption | omega)) | ((with_reducible refine R.a_itF ?h1 ?h2); (case h1 => first | assumption | omega))
  | ((with_reducible refine R.a_niT ?h1 ?h2); (case h1 => first | assumption | omega)) | ((with_reducible refine R.a_niF ?h1 ?h2); (case h1 => first | assumption | omega)))
local macro_rules | `(tactic| walk_at "k") => `(tactic| first
  | ((with_reducible refine R.a_cT ?h1 ?h2 ?h3); (case h1 => first | assumption | omega); (case h2 => first | assumption | omega))
  | ((with_reducible refine R.a_ncT ?h1 ?h2 ?h3); (case h1 => first | assumption | omega); (case h2 => first | assumption | omega)))
local macro_rules | `(tactic| walk_at "c") => `(tactic| fail)
local macro_rules | `(tactic| walk_at "sq") => `(tactic| first | assumption | (refine' R.Own.sq ?o 0 ?e; (case o => assumption); (case e => rfl)) | (refine' R.Own.sq ?o 1 ?e; (case o => assumption); (case e => rfl)) | (refine' R.Own.sq ?o 2 ?e; (case o => assumption); (case e => rfl)) | (refine' R.Own.sq ?o 3 ?e; (case o => assumption); (case e => rfl)) | (refine' R.Own.sq ?o 4 ?e; (case o => assumption); (case e => rfl)) | (refine' R.Own.sq ?o 5 ?e; (case o => assumption); (case e => rfl)) | (refine' R.Own.sq ?o 6 ?e; (case o => assumption); (case e => rfl)) | (refine' R.Own.sq ?o 7 ?e; (case o => assumption); (case e => rfl)) | (refine' R.Own.sq ?o 8 ?e; (case o => assumption); (case e => rfl)) | (refine' R.Own.sq ?o 9 ?e; (case o => assumption); (case e => rfl)) | (refine' R.Own.seq ?o ?e; (case o => assumption); (case e => assumption)))
local macro_rules | `(tactic| walk_at "tq") => `(tactic| first | assumption | (refine' R.Own.tq ?o 0 ?e; (case o => assumption); (case e => rfl)) | (refine' R.Own.tq ?o 1 ?e; (case o => assumption); (case e => rfl)) | (refine' R.Own.tq ?o 2 ?e; (case o => assumption); (case e => rfl)) | (refine' R.Own.tq ?o 3 ?e; (case o => assumption); (case e => rfl)) | (refine' R.Own.tq ?o 4 ?e; (case o => assumption); (case e => rfl)) | (refine' R.Own.tq ?o 5 ?e; (case o => assumption); (case e => rfl)) | (refine' R.Own.tq ?o 6 ?e; (case o => assumption); (case e => rfl)) | (refine' R.Own.tq ?o 7 ?e; (case o => assumption); (case e => rfl)) | (refine' R.Own.tq ?o 8 ?e; (case o => assumption); (case e => rfl)) | (refine' R.Own.tq ?o 9 ?e; (case o => assumption); (case e => rfl)) | (refine' R.Own.tup ?o ?e; (case o => assumption); (case e => assumption)))
local macro_rules | `(tactic| walk_at "c") => `(tactic| first
  | ((with_reducible refine' R.a_ixL ?s ?a ?q); (case s => walk_at "sq"); (case a => rfl))
  | ((with_reducible refine' R.a_ixT ?s ?a ?q); (case s => walk_at "tq"); (case a => rfl))
  | ((with_reducible refine' R.a_gtup ?k1 ?k2 ?k3); (case k1 => walk_at "tq"); (case k2 => rfl))
  | with_reducible refine R.a_int1 ?_ | with_reducible refine R.a_abs ?_
  | ((with_reducible refine' R.a_len ?k1 ?k2); (case k1 => first | (refine Or.inl ?_; walk_at "sq") | (refine Or.inr ?_; walk_at "tq")))
  | ((with_reducible refine' R.a_pow (k := 18) ?n ?k ?m ?q); (case n => rfl); (case k => decide); (case m => decide)) | ((with_reducible refine' R.a_pow (k := 40) ?n ?k ?m ?q); (case n => rfl); (case k => decide); (case m => decide)) | ((with_reducible refine' R.a_pow (k := 6) ?n ?k ?m ?q); (case n => rfl); (case k => decide); (case m => decide)) | ((with_reducible refine' R.a_pow (k := 20) ?n ?k ?m ?q); (case n => rfl); (case k => decide); (case m => decide)) | ((with_reducible refine' R.a_pow (k := 30) ?n ?k ?m ?q); (case n => rfl); (case k => decide); (case m => decide)) | ((with_reducible refine' R.a_pow (k := 39) ?n ?k ?m ?q); (case n => rfl); (case k => decide); (case m => decide))
  | ((with_reducible refine' R.a_setL ?k1 0 ?k2 ?k3 ?k4); (case k1 => assumption); (case k2 => rfl); (case k3 => rfl); intro H' O') | ((with_reducible refine' R.a_setL ?k1 1 ?k2 ?k3 ?k4); (case k1 => assumption); (case k2 => rfl); (case k3 => rfl); intro H' O') | ((with_reducible refine' R.a_setL ?k1 2 ?k2 ?k3 ?k4); (case k1 => assumption); (case k2 => rfl); (case k3 => rfl); intro H' O') | ((with_reducible refine' R.a_setL ?k1 3 ?k2 ?k3 ?k4); (case k1 => assumption); (case k2 => rfl); (case k3 => rfl); intro H' O') | ((with_reducible refine' R.a_setL ?k1 4 ?k2 ?k3 ?k4); (case k1 => assumption); (case k2 => rfl); (case k3 => rfl); intro H' O') | ((with_reducible refine' R.a_setL ?k1 5 ?k2 ?k3 ?k4); (case k1 => assumption); (case k2 => rfl); (case k3 => rfl); intro H' O') | ((with_reducible refine' R.a_setL ?k1 6 ?k2 ?k3 ?k4); (case k1 => assumption); (case k2 => rfl); (case k3 => rfl); intro H' O') | ((with_reducible refine' R.a_setL ?k1 7 ?k2 ?k3 ?k4); (case k1 => assumption); (case k2 => rfl); (case k3 => rfl); intro H' O') | ((with_reducible refine' R.a_setL ?k1 8 ?k2 ?k3 ?k4); (case k1 => assumption); (case k2 => rfl); (case k3 => rfl); intro H' O') | ((with_reducible refine' R.a_setL ?k1 9 ?k2 ?k3 ?k4); (case k1 => assumption); (case k2 => rfl); (case k3 => rfl); intro H' O'))
local macro_rules | `(tactic| walk_at "app") => `(tactic| first | ((with_reducible refine' R.a_app ?k1 0 ?k2 ?k3 ?k4); (case k1 => assumption); (case k2 => rfl)) | ((with_reducible refine' R.a_app ?k1 1 ?k2 ?k3 ?k4); (case k1 => assumption); (case k2 => rfl)) | ((with_reducible refine' R.a_app ?k1 2 ?k2 ?k3 ?k4); (case k1 => assumption); (case k2 => rfl)) | ((with_reducible refine' R.a_app ?k1 3 ?k2 ?k3 ?k4); (case k1 => assumption); (case k2 => rfl)) | ((with_reducible refine' R.a_app ?k1 4 ?k2 ?k3 ?k4); (case k1 => assumption); (case k2 => rfl)) | ((with_reducible refine' R.a_app ?k1 5 ?k2 ?k3 ?k4); (case k1 => assumption); (case k2 => rfl)))
local macro_rules | `(tactic| walk_at "mkL") => `(tactic| ((with_reducible refine' R.a_mkL ?k1 ?k2 ?k3); (case k1 => assumption); (case k2 => first | exact Nat.zero_le _ | (simp only [List.length_cons, List.length_nil, List.length_map]; omega))))
local macro_rules | `(tactic| walk_at "mkT") => `(tactic| ((with_reducible refine' R.a_mkT ?k1 ?k2 ?k3); (case k1 => assumption); (case k2 => first | exact Nat.zero_le _ | (simp only [List.length_cons, List.length_nil, List.length_map]; omega))))
local macro_rules | `(tactic| walk_at "h") => `(tactic| repeat (first | walk_at "s" | walk_at "k" | walk_at "c"))
local macro_rules | `(tactic| walk_at "g") => `(tactic| repeat (first | walk_at "s" | walk_at "k" | walk_at "c" | with_reducible refine R.a_if ?_))
local macro_rules | `(tactic| walk_at "s") => `(tactic| with_reducible refine R.a_enumT ?_)
local macro_rules | `(tactic| walk_at "s") => `(tactic| first | with_reducible refine R.a_fld ?_ | with_reducible refine R.a_sfld ?_ | with_reducible refine R.a_make ?_)
local macro_rules | `(tactic| walk_at "c") => `(tactic| ((with_reducible refine' R.a_glst ?k1 ?k2 ?k3); (case k1 => walk_at "sq"); (case k2 => rfl)))
local macro_rules | `(tactic| walk_at "s") => `(tactic| first | with_reducible refine R.a_neB ?_ | with_reducible refine R.a_eqB ?_ | with_reducible refine R.a_neO ?_ | with_reducible refine R.a_isO1 ?_ | with_reducible refine R.a_isO0 ?_ | with_reducible refine R.a_notO1 ?_ | with_reducible refine R.a_notO0 ?_)
local macro_rules | `(tactic| walk_at "s") => `(tactic| first | with_reducible refine R.a_par3 ?_ | with_reducible refine R.a_par33 ?_)
local macro_rules | `(tactic| walk_at "s") => `(tactic| first | with_reducible refine R.a_lstRg ?_ | with_reducible refine R.a_rg2 ?_)

namespace Toy
open PySem PySem.Spec PyProof.Rows L2 R
open PySem.W (Frag)
def topS (i : Nat) : Stmt := PySem.Challenge.pw_resttricks_k35_fitting_great.main.body.getD i (.Pass ⟨0, 0, 0, 0⟩)
abbrev s_is_from : Stmt := (topS 7)
abbrev N_is_from : List Str := ["value", "low", "high"]
abbrev p_is_from : List Str := ["value", "low", "high"]
theorem sc_is_from : FnScope N_is_from p_is_from (defScope s_is_from) := ⟨rfl, rfl, rfl, by decide +kernel, rfl, by decide +kernel, by decide +kernel⟩
abbrev s_power : Stmt := (topS 8)
abbrev N_power : List Str := ["base", "many", "found", "turn"]
abbrev p_power : List Str := ["base", "many"]
theorem sc_power : FnScope N_power p_power (defScope s_power) := ⟨rfl, rfl, rfl, by decide +kernel, rfl, by decide +kernel, by decide +kernel⟩
abbrev s_need_pairs : Stmt := (topS 13)
abbrev N_need_pairs : List Str := ["pairs", "index", "pair", "one"]
abbrev p_need_pairs : List Str := ["pairs"]
theorem sc_need_pairs : FnScope N_need_pairs p_need_pairs (defScope s_need_pairs) := ⟨rfl, rfl, rfl, by decide +kernel, rfl, by decide +kernel, by decide +kernel⟩
abbrev s_factors_of : Stmt := (topS 14)
abbrev N_factors_of : List Str := ["block", "pairs", "rests", "some", "rest", "less", "times", "n", "later", "other", "left"]
abbrev p_factors_of : List Str := ["block", "pairs"]
theorem sc_factors_of : FnScope N_factors_of p_factors_of (defScope s_factors_of) := ⟨rfl, rfl, rfl, by decide +kernel, rfl, by decide +kernel, by decide +kernel⟩
abbrev s_fitting : Stmt := (topS 15)
abbrev N_fitting : List Str := ["pairs", "found", "base", "take", "times"]
abbrev p_fitting : List Str := ["pairs"]
theorem sc_fitting : FnScope N_fitting p_fitting (defScope s_fitting) := ⟨rfl, rfl, rfl, by decide +kernel, rfl, by decide +kernel, by decide +kernel⟩
abbrev s_law_taken : Stmt := (topS 17)
abbrev N_law_taken : List Str := ["_law_row", "_law_many", "_law_found", "_law_cell"]
abbrev p_law_taken : List Str := ["_law_row", "_law_many"]
theorem sc_law_taken : FnScope N_law_taken p_law_taken (defScope s_law_taken) := ⟨rfl, rfl, rfl, by decide +kernel, rfl, by decide +kernel, by decide +kernel⟩
abbrev s_law_power : Stmt := (topS 18)
abbrev N_law_power : List Str := ["_law_base", "_law_many", "_law_found", "_law_turn"]
abbrev p_law_power : List Str := ["_law_base", "_law_many"]
theorem sc_law_power : FnScope N_law_power p_law_power (defScope s_law_power) := ⟨rfl, rfl, rfl, by decide +kernel, rfl, by decide +kernel, by decide +kernel⟩
abbrev s_law_trick : Stmt := (topS 19)
abbrev N_law_trick : List Str := ["_law_row", "_law_small", "_law_base", "_law_take", "_law_times", "_law_d", "_law_some", "_law_one"]
abbrev p_law_trick : List Str := ["_law_row", "_law_small"]
theorem sc_law_trick : FnScope N_law_trick p_law_trick (defScope s_law_trick) := ⟨rfl, rfl, rfl, by decide +kernel, rfl, by decide +kernel, by decide +kernel⟩
abbrev s_law_behind : Stmt := (topS 20)
abbrev N_law_behind : List Str := ["_law_told", "_law_n", "_law_base", "_law_take", "_law_times", "_law_block", "_law_rest"]
abbrev p_law_behind : List Str := ["_law_told", "_law_n"]
theorem sc_law_behind : FnScope N_law_behind p_law_behind (defScope s_law_behind) := ⟨rfl, rfl, rfl, by decide +kernel, rfl, by decide +kernel, by decide +kernel⟩
abbrev s_law_number : Stmt := (topS 21)
abbrev N_law_number : List Str := ["_law_row", "_law_size", "_law_n"]
abbrev p_law_number : List Str := ["_law_row"]
theorem sc_law_number : FnScope N_law_number p_law_number (defScope s_law_number) := ⟨rfl, rfl, rfl, by decide +kernel, rfl, by decide +kernel, by decide +kernel⟩
abbrev s_law : Stmt := (topS 22)
abbrev N_law : List Str := ["_law_script", "_law_line", "_law_turn", "_law_told", "_law_pairs", "_law_k", "_law_n", "_law_found", "_law_some", "_law_later"]
abbrev p_law : List Str := ["_law_script"]
theorem sc_law : FnScope N_law p_law (defScope s_law) := ⟨rfl, rfl, rfl, by decide +kernel, rfl, by decide +kernel, by decide +kernel⟩
structure Adr where
  f_is_from : Addr
  d_is_from : FuncData
  f_power : Addr
  d_power : FuncData
  f_need_pairs : Addr
  d_need_pairs : FuncData
  f_factors_of : Addr
  d_factors_of : FuncData
  f_fitting : Addr
  d_fitting : FuncData
  f_law_taken : Addr
  d_law_taken : FuncData
  f_law_power : Addr
  d_law_power : FuncData
  f_law_trick : Addr
  d_law_trick : FuncData
  f_law_behind : Addr
  d_law_behind : FuncData
  f_law_number : Addr
  d_law_number : FuncData
  f_law : Addr
  d_law : FuncData
structure Txt (K : Frag) (mg : Str → Option Value) (Z : Adr) : Prop where
  F_is_from : Fun K "is_from" "is_from" s_is_from Z.f_is_from Z.d_is_from
  b_is_from : Binds K Z.d_is_from p_is_from []
  g_is_from : mg "is_from" = some (.ref Z.f_is_from)
  F_power : Fun K "power" "power" s_power Z.f_power Z.d_power
  b_power : Binds K Z.d_power p_power []
  g_power : mg "power" = some (.ref Z.f_power)
  F_need_pairs : Fun K "need_pairs" "need_pairs" s_need_pairs Z.f_need_pairs Z.d_need_pairs
  b_need_pairs : Binds K Z.d_need_pairs p_need_pairs []
  g_need_pairs : mg "need_pairs" = some (.ref Z.f_need_pairs)
  F_factors_of : Fun K "factors_of" "factors_of" s_factors_of Z.f_factors_of Z.d_factors_of
  b_factors_of : Binds K Z.d_factors_of p_factors_of []
  g_factors_of : mg "factors_of" = some (.ref Z.f_factors_of)
  F_fitting : Fun K "fitting" "fitting" s_fitting Z.f_fitting Z.d_fitting
  b_fitting : Binds K Z.d_fitting p_fitting []
  g_fitting : mg "fitting" = some (.ref Z.f_fitting)
  F_law_taken : Fun K "_law_taken" "_law_taken" s_law_taken Z.f_law_taken Z.d_law_taken
  b_law_taken : Binds K Z.d_law_taken p_law_taken []
  g_law_taken : mg "_law_taken" = some (.ref Z.f_law_taken)
  F_law_power : Fun K "_law_power" "_law_power" s_law_power Z.f_law_power Z.d_law_power
  b_law_power : Binds K Z.d_law_power p_law_power []
  g_law_power : mg "_law_power" = some (.ref Z.f_law_power)
  F_law_trick : Fun K "_law_trick" "_law_trick" s_law_trick Z.f_law_trick Z.d_law_trick
  b_law_trick : Binds K Z.d_law_trick p_law_trick []
  g_law_trick : mg "_law_trick" = some (.ref Z.f_law_trick)
  F_law_behind : Fun K "_law_behind" "_law_behind" s_law_behind Z.f_law_behind Z.d_law_behind
  b_law_behind : Binds K Z.d_law_behind p_law_behind []
  g_law_behind : mg "_law_behind" = some (.ref Z.f_law_behind)
  F_law_number : Fun K "_law_number" "_law_number" s_law_number Z.f_law_number Z.d_law_number
  b_law_number : Binds K Z.d_law_number p_law_number []
  g_law_number : mg "_law_number" = some (.ref Z.f_law_number)
  F_law : Fun K "law" "law" s_law Z.f_law Z.d_law
  b_law : Binds K Z.d_law p_law []
  g_law : mg "law" = some (.ref Z.f_law)
  v_LEAST_BASE : ∃ t, mg "LEAST_BASE" = some (.int (2) t)
  v_MOST_BASE : ∃ t, mg "MOST_BASE" = some (.int (16) t)
  v_MOST_NUMBER : ∃ t, mg "MOST_NUMBER" = some (.int (10000000000000000000000000000000000000000) t)
  v_MOST_TAKE : ∃ t, mg "MOST_TAKE" = some (.int (2) t)
  v_MOST_TIMES : ∃ t, mg "MOST_TIMES" = some (.int (100) t)
  v_MOST_PAIRS : ∃ t, mg "MOST_PAIRS" = some (.int (10) t)
  n_isinstance : mg "isinstance" = none
  n_int : mg "int" = none
  n_bool : mg "bool" = none
  n_range : mg "range" = none
  n_enumerate : mg "enumerate" = none
  n_all : mg "all" = none
  n_list : mg "list" = none
  n_tuple : mg "tuple" = none
  n_len : mg "len" = none
  n_abs : mg "abs" = none
  n_sorted : mg "sorted" = none
  n_set : mg "set" = none
section
variable {P : Program} {w : World} {K : Frag} {mg : Str → Option Value} {base : Heap} {Z : Adr}

/-! ### is_from -/
def sp_is_from (K : Frag) : Sp := fun vs H Q _ => ∃ i lo hi : Int, vs = [.int i, .int lo, .int hi] ∧ Q (.bl (decide (lo ≤ i) && decide (i ≤ hi))) H
theorem use_is_from {K : Frag} {i lo hi : Int} {H : Hp} {Q : VK} {E : XK} (h : Q (.bl (decide (lo ≤ i) && decide (i ≤ hi))) H) : sp_is_from K ([.int i, .int lo, .int hi] ++ []) H Q E := ⟨_, _, _, rfl, h⟩
theorem ok_is_from (T : Txt K mg Z) : FnOk P w K mg base CX0 1 Z.f_is_from Z.d_is_from p_is_from (sp_is_from K) := by
  refine T.F_is_from.ok sc_is_from (fun vs H Q E h => ?_) (fun cdv A outer s H vs Q E hr h => ?_)
  · obtain ⟨_, _, _, rfl, _⟩ := h; rfl
  · obtain ⟨i, lo, hi, rfl, h⟩ := h
    refine ⟨_, (pss_one (ps_ret (pe_and (pe_callB (r := rIsi K) call_isi (by rfl) T.n_isinstance boot_isinstance (pa_cons (pv 0) (pa_cons (pe_bltn (v := .ty "int") (by rfl) T.n_int boot_int rfl) pa_nil))) (pe_and (pe_not (pe_callB (r := rIsi K) call_isi (by rfl) T.n_isinstance boot_isinstance (pa_cons (pv 0) (pa_cons (pe_bltn (v := .ty "bool") (by rfl) T.n_bool boot_bool rfl) pa_nil)))) (pe_one (pe_chain op_le op_le (pv 1) (pv 0) (pv 2))))))), ?_⟩
    walk_at "g"
    refine a_it2 (fun c => ?_) (fun c => ?_)
    · walk_at "g"
      rw [decide_eq_true c, Bool.true_and] at h; exact h
    · rw [decide_eq_false c] at h; exact h
-- @USE
local macro_rules | `(tactic| walk_at "c") => `(tactic| with_reducible refine use_is_from ?_)

/-! ### power -/
def sp_power : Sp := fun vs H Q _ => ∃ b m : Int, vs = [.int b, .int m] ∧ -(2 ^ 62) ≤ m ∧ m < 2 ^ 62 ∧ -(2 ^ 64) < b ∧ b < 2 ^ 64 ∧ Q (.int (b ^ m.toNat)) H
theorem use_power {b m : Int} {H : Hp} {Q : VK} {E : XK} (h1 : -(2 ^ 62) ≤ m ∧ m < 2 ^ 62 ∧ -(2 ^ 64) < b ∧ b < 2 ^ 64) (h : Q (.int (b ^ m.toNat)) H) : sp_power ([.int b, .int m] ++ []) H Q E := ⟨_, _, rfl, h1.1, h1.2.1, h1.2.2.1, h1.2.2.2, h⟩
theorem ok_power (T : Txt K mg Z) : FnOk P w K mg base CX0 1 Z.f_power Z.d_power p_power sp_power := by
  refine T.F_power.ok sc_power (fun vs H Q E h => ?_) (fun cdv A outer s H vs Q E hr h => ?_)
  · obtain ⟨_, _, rfl, _⟩ := h; rfl
  · obtain ⟨b, m, rfl, h1, h2, h3, h4, h⟩ := h
    refine ⟨_, (pss_cons (ps_set (i := 2) sc_power.nd rfl (Or.inl rfl) pe_int)
    (pss_cons (ps_for PassesOwn.never rfl (pi_range1 rfl T.n_range (pa_cons (pv 1) pa_nil)) (pg_name (i := 3) sc_power.nd rfl (Or.inl rfl))
    (pss_one (ps_set (i := 2) sc_power.nd rfl (Or.inl rfl) (pe_op op_mulX (pv 2) (pv 0)))))
    (pss_one (ps_ret (pv 2))))), ?_⟩
    walk_at "g"
    refine for_range (fun i σ H' => H' = H ∧ ∃ v, σ = [some (.int b), some (.int m), some (.int (b ^ i)), v]) ⟨rfl, none, by rw [Int.pow_zero]; rfl⟩ ?_ ?_
    · rintro i σ H' hi ⟨rfl, v, rfl⟩
      walk_at "g"
      exact ⟨rfl, _, by rw [Int.pow_succ]; rfl⟩
    · rintro σ H' ⟨rfl, v, rfl⟩
      walk_at "g"
      exact h
-- @USE
local macro_rules | `(tactic| walk_at "c") => `(tactic| ((with_reducible refine use_power ?h1 ?h2); (case h1 => omega)))

/-! ### need_pairs -/
/-- pairs of ints -/
abbrev prs (l : List (Int × Int)) : List (List Int) := l.map fun p => [p.1, p.2]
def PairsOk (l : List (Int × Int)) : Prop := ∀ p ∈ l, (-(10 ^ 40) ≤ p.1 ∧ p.1 ≤ 10 ^ 40) ∧ (-(10 ^ 40) ≤ p.2 ∧ p.2 ≤ 10 ^ 40)
theorem prs_at {H : Hp} {xs : List V} {l : List (Int × Int)} (h : RowsT H xs (prs l)) {i : Nat} {x : V} (hx : xs[i]? = some x) : ∃ (hl : i < l.length) (q : Addr), x = .ref q ∧ H q = some (.tup [.int l[i].1, .int l[i].2]) := by
  obtain ⟨hl, q, e1, e2⟩ := h.at_ hx
  have hl2 : i < l.length := by rw [List.length_map] at hl; exact hl
  refine ⟨hl2, q, e1, ?_⟩
  rw [e2, List.getElem_map]; rfl
def sp_need_pairs : Sp := fun vs H Q _ => ∃ (a : Addr) (xs : List V) (l : List (Int × Int)), vs = [.ref a] ∧ EAt H a xs ∧ RowsT H xs (prs l) ∧ (1 ≤ l.length ∧ l.length ≤ 10) ∧ PairsOk l ∧ ∀ H', Same H H' → Q .non H'
theorem ok_need_pairs (T : Txt K mg Z) : FnOk P w K mg base CX0 2 Z.f_need_pairs Z.d_need_pairs p_need_pairs (sp_need_pairs) := by
  refine T.F_need_pairs.ok sc_need_pairs (fun vs H Q E h => ?_) (fun cdv A outer s H vs Q E hr h => ?_)
  · obtain ⟨_, _, _, rfl, _⟩ := h; rfl
  · obtain ⟨a, xs, l, rfl, hE, hR, ⟨hl1, hl2⟩, hok, h⟩ := h
    have xl : xs.length = l.length := by have := hR.1; rw [List.length_map] at this; exact this
    have O := Own.refl H
    refine ⟨_, (pss_cons (ps_if (PW.pt (pw_or (pt_not (pt_val (pe_callB (r := rIsiT K) call_isiT (by rfl) T.n_isinstance boot_isinstance (pa_cons (pv 0) (pa_cons (pe_tup (pa_cons (pe_bltn (v := .ty "list") (by rfl) T.n_list boot_list rfl) (pa_cons (pe_bltn (v := .ty "tuple") (by rfl) T.n_tuple boot_tuple rfl) pa_nil))) pa_nil))))) (pw_or1 (pt_not (pt_chain op_le op_le pe_int (pe_callB (r := R.rLen K) call_lenR (by rfl) T.n_len boot_len (pa_cons (pv 0) pa_nil)) (pe_globI rfl T.v_MOST_PAIRS)))))) (pss_one ps_never) pss_nil)
    (pss_one (ps_for PassesOwn.never rfl (pi_either (pi_enum rfl T.n_enumerate (pa_cons (pv 0) pa_nil)) (pi_enumT rfl T.n_enumerate (pa_cons (pv 0) pa_nil))) (pg_tup rfl (pgs_cons (pg_name (i := 1) sc_need_pairs.nd rfl (Or.inl rfl)) (pgs_cons (pg_name (i := 2) sc_need_pairs.nd rfl (Or.inl rfl)) pgs_nil)))
    (pss_cons (ps_if (PW.pt (pw_or (pt_not (pt_val (pe_callB (r := rIsi K) call_isi (by rfl) T.n_isinstance boot_isinstance (pa_cons (pv 2) (pa_cons (pe_bltn (v := .ty "tuple") (by rfl) T.n_tuple boot_tuple rfl) pa_nil))))) (pw_or1 (pt_cmpR op_ne (pe_callB (r := R.rLen K) call_lenR (by rfl) T.n_len boot_len (pa_cons (pv 2) pa_nil)) pe_int (nomark _))))) (pss_one ps_never) pss_nil)
    (pss_one (ps_if (pt_not (pt_val (pe_callB (r := rAll K) (cr_all rfl) (by rfl) T.n_all boot_all (pa_cons (pe_lc (own := [("one", 3)]) (tt := tYes) rfl sc_need_pairs.nd (pi_tup (pv 2)) (blkOk_by (N := N_need_pairs) (sc := defScope s_need_pairs) (by decide +kernel)) (fun _ _ _ _ _ => (pg_name (i := 3) sc_need_pairs.nd rfl (Or.inl rfl))) (fun _ _ _ _ _ => pts_nil) (fun _ _ _ _ _ => (pe_call (ok_is_from T) (hr.mono (by decide)) rfl T.g_is_from T.F_is_from.kp T.b_is_from .nil pass0 (pa_cons (pv 3) (pa_cons (pe_un un_neg (pe_globI rfl T.v_MOST_NUMBER)) (pa_cons (pe_globI rfl T.v_MOST_NUMBER) pa_nil)))))) pa_nil)))) (pss_one ps_never) pss_nil)))))), ?_⟩
    walk_at "g"; walk_at "mkT"; intro tp H1 htp O
    walk_at "g"
    refine a_isiE (hE.up O.st) (O.get 0 rfl) ?_
    walk_at "g"
    refine a_lenE (hE.up O.st) ?_
    walk_at "g"
    have s1 : Same H H1 := O.st
    refine for_enumE (hE.up O.st) rfl (fun i σ H' => ∃ v1 v2 v3 Lw, σ = [some (.ref a), v1, v2, v3] ∧ Own H1 Lw H') ⟨_, _, _, [], rfl, Own.refl H1⟩ (fun i σ H' ⟨_, _, _, _, _, O⟩ => O.st) ?_ ?_
    · clear O
      rintro i x T2 σ H' hi ⟨v1, v2, v3, Lw, rfl, O⟩ hT
      have O := Own.new (o := .tup [.int (i : Nat), x]) O hT
      have sH := s1.trans O.st
      obtain ⟨il, q, rfl, hq⟩ := prs_at hR hi
      obtain ⟨⟨a1, a2⟩, b1, b2⟩ := hok l[i] (List.getElem_mem il)
      walk_at "g"
      refine a_isTup (sH _ _ hq) ?_
      walk_at "g"
      refine a_len (.inr (SqT.of (sH _ _ hq))) ?_
      walk_at "g"
      refine a_niT rfl ?_
      walk_at "g"
      refine ⟨q, rfl, ⟨_, SqT.of (sH _ _ hq)⟩, fun D hD => ?_⟩
      replace O := Own.new (o := .lst []) O hD
      refine lc_tup (xs := [.int l[i].1, .int l[i].2]) (fun j H'' => Own H1 ((D, .lst ((List.replicate j true).map V.bl)) :: (T2, .tup [.int (i : Nat), .ref q]) :: Lw) H'') O (fun j H'' _ O => SqT.of (O.st _ _ (s1 _ _ hq))) ?_ ?_
      · clear O
        rintro j y H'' hj O
        have hy : ∃ z : Int, y = .int z ∧ -(10 ^ 40) ≤ z ∧ z ≤ 10 ^ 40 := by
          match j, hj with
          | 0, hj => cases hj; exact ⟨_, rfl, a1, a2⟩
          | 1, hj => cases hj; exact ⟨_, rfl, b1, b2⟩
        have j2 : j < 2 := (List.getElem?_eq_some_iff.mp hj).1
        obtain ⟨z, rfl, z1, z2⟩ := hy
        walk_at "g"
        refine ⟨rfl, ?_⟩
        walk_at "g"
        refine ⟨_, _, _, rfl, ?_⟩
        have key : ∀ lo hi : Int, lo = -(10 ^ 40) → hi = 10 ^ 40 → (decide (lo ≤ z) && decide (z ≤ hi)) = true := fun lo hi e1 e2 => by rw [e1, e2, decide_eq_true z1, decide_eq_true z2]; rfl
        rw [key _ _ (by decide) (by decide)]
        refine ⟨_, O.get 0 rfl, ?_, ?_⟩
        · rw [List.length_map, List.length_replicate]
          exact Nat.lt_of_lt_of_le (show _ < 1000 by omega) (by decide)
        · rw [show (List.replicate (j + 1) true).map V.bl = (List.replicate j true).map V.bl ++ [.bl true] by rw [List.replicate_succ', List.map_append]; rfl]
          exact Own.put O 0 rfl
      · clear O
        rintro H'' O
        walk_at "g"
        refine ⟨D, _, rfl, Own.sq O 0 rfl, ?_⟩
        rw [show (List.replicate [V.int l[i].1, .int l[i].2].length true).all id = true from rfl]
        walk_at "g"
        exact ⟨_, _, _, _, rfl, O⟩
    · rintro σ H' ⟨v1, v2, v3, Lw, rfl, O⟩
      walk_at "g"
      exact h _ (s1.trans O.st)

/-! ### factors_of -/
-- @NEEDS need_pairs
/-- the first i of a list, some of them -/
theorem take_snoc {α : Type} {l : List α} {i : Nat} (h : i < l.length) : l.take (i + 1) = l.take i ++ [l[i]] := by rw [List.take_succ, List.getElem?_eq_getElem h]; rfl
theorem filter_take_snoc {α : Type} {p : α → Bool} {l : List α} {i : Nat} (h : i < l.length) : (l.take (i + 1)).filter p = (l.take i).filter p ++ (if p l[i] = true then [l[i]] else []) := by
  rw [take_snoc h, List.filter_append, List.filter_cons]
  split <;> simp
def sp_factors_of : Sp := fun vs H Q _ => ∃ (B : Int) (a : Addr) (xs : List V) (l : List (Int × Int)), vs = [.int B, .ref a] ∧ (2 ≤ B ∧ B ≤ 256) ∧ EAt H a xs ∧ RowsT H xs (prs l) ∧ l.length ≤ 10 ∧
  ∀ p H', Same H H' → H p = none → H' p = some (.lst ((facs B l).map V.int)) → Q (.ref p) H'
theorem ok_factors_of (T : Txt K mg Z) : FnOk P w K mg base CX0 1 Z.f_factors_of Z.d_factors_of p_factors_of sp_factors_of := by
  refine T.F_factors_of.ok sc_factors_of (fun vs H Q E h => ?_) (fun cdv A outer s H vs Q E hr h => ?_)
  · obtain ⟨_, _, _, _, rfl, _⟩ := h; rfl
  · obtain ⟨B, a, xs, l, rfl, ⟨hB1, hB2⟩, hE, hR, hl, h⟩ := h
    have xl : xs.length = l.length := by have := hR.1; rw [List.length_map] at this; exact this
    have O := Own.refl H
    have ml : ∀ p : Int × Int, 0 ≤ (rst B p).1 ∧ (rst B p).1 < B := fun p => ⟨Int.emod_nonneg _ (by omega), Int.emod_lt_of_pos _ (by omega)⟩
    refine ⟨_, (C8.pss_cut (ps_setLc (i := 2) rfl sc_factors_of.nd rfl rfl (sw_true rfl rfl rfl (by decide +kernel)) (own := [("n", 7), ("later", 8)]) (tt := tYes) (pi_either (pi_list (pv 1)) (pi_tup (pv 1))) (blkOk_by (N := N_factors_of) (sc := defScope s_factors_of) (by decide +kernel)) (fun _ _ _ _ _ => (pg_tupK (K := K) (n := 2) rfl (pgs_cons (pg_name (i := 7) sc_factors_of.nd rfl (Or.inl rfl)) (pgs_cons (pg_name (i := 8) sc_factors_of.nd rfl (Or.inl rfl)) pgs_nil)))) (fun _ _ _ _ _ => pts_nil) (fun _ _ _ _ _ => (pe_tup (pa_cons (pe_op op_mod (pv 7) (pv 0)) (pa_cons (pe_op op_sub (pv 8) (pe_op op_fdivW (pv 7) (pv 0))) pa_nil)))))
    (pss_cons (ps_if (pt_not (pt_val (pe_callB (r := rAll K) (cr_all rfl) (by rfl) T.n_all boot_all (pa_cons (pe_lc (own := [("rest", 4), ("less", 5)]) rfl sc_factors_of.nd (pi_list (pv 2)) (blkOk_by (N := N_factors_of) (sc := defScope s_factors_of) (by decide +kernel)) (fun _ _ _ _ _ => (pg_tupK (K := K) (n := 2) rfl (pgs_cons (pg_name (i := 4) sc_factors_of.nd rfl (Or.inl rfl)) (pgs_cons (pg_name (i := 5) sc_factors_of.nd rfl (Or.inl rfl)) pgs_nil)))) (fun _ _ _ _ _ => (pts_one (pt_cmpR op_eq (pv 4) pe_int (nomark _)))) (fun _ _ _ _ _ => (pe_cmpR op_eq (pv 5) pe_int (nomark _)))) pa_nil)))) (pss_one (ps_ret (pe_lst pa_nil))) pss_nil)
    (pss_cons (ps_setLc (i := 3) rfl sc_factors_of.nd rfl rfl (sw_true rfl rfl rfl (by decide +kernel)) (own := [("rest", 4), ("less", 5)]) (pi_list (pv 2)) (blkOk_by (N := N_factors_of) (sc := defScope s_factors_of) (by decide +kernel)) (fun _ _ _ _ _ => (pg_tupK (K := K) (n := 2) rfl (pgs_cons (pg_name (i := 4) sc_factors_of.nd rfl (Or.inl rfl)) (pgs_cons (pg_name (i := 5) sc_factors_of.nd rfl (Or.inl rfl)) pgs_nil)))) (fun _ _ _ _ _ => (pts_one (pt_cmpR op_ne (pv 4) pe_int (nomark _)))) (fun _ _ _ _ _ => (pe_tup (pa_cons (pv 4) (pa_cons (pv 5) pa_nil)))))
    (pss_cons (ps_if (pt_cmpR (r := rEqD K) (op_eqD hr.units) (pv 3) (pe_lst pa_nil) (nomark _)) (pss_one (ps_ret (pe_listRg rfl (by rfl) T.n_list (prg_2 rfl T.n_range (pe_un un_neg (pe_globI rfl T.v_MOST_TIMES)) (pe_op op_add (pe_globI rfl T.v_MOST_TIMES) pe_int))))) pss_nil)
    (pss_cons (ps_asg (pe_ix (r := rIxL K) ix_list (pv 3) pe_int (fun _ _ => rfl)) (pg_tup rfl (pgs_cons (pg_name (i := 4) sc_factors_of.nd rfl (Or.inl rfl)) (pgs_cons (pg_name (i := 5) sc_factors_of.nd rfl (Or.inl rfl)) pgs_nil))))
    (pss_cons (ps_set (i := 6) sc_factors_of.nd rfl (Or.inr rfl) (pe_op op_fdivW (pv 5) (pv 4)))
    (pss_cons (ps_if (PW.pt (pw_or (pt_cmpR op_gt (pe_callB call_absR (by rfl) T.n_abs boot_abs (pa_cons (pv 6) pa_nil)) (pe_globI rfl T.v_MOST_TIMES) (nomark _)) (pw_or1 (pt_not (pt_val (pe_callB (r := rAll K) (cr_all rfl) (by rfl) T.n_all boot_all (pa_cons (pe_lc (own := [("other", 9), ("left", 10)]) (tt := tYes) rfl sc_factors_of.nd (pi_list (pv 3)) (blkOk_by (N := N_factors_of) (sc := defScope s_factors_of) (by decide +kernel)) (fun _ _ _ _ _ => (pg_tupK (K := K) (n := 2) rfl (pgs_cons (pg_name (i := 9) sc_factors_of.nd rfl (Or.inl rfl)) (pgs_cons (pg_name (i := 10) sc_factors_of.nd rfl (Or.inl rfl)) pgs_nil)))) (fun _ _ _ _ _ => pts_nil) (fun _ _ _ _ _ => (pe_cmpR op_eq (pe_op op_mulX (pv 9) (pv 6)) (pv 10) (nomark _)))) pa_nil))))))) (pss_one (ps_ret (pe_lst pa_nil))) pss_nil)
    (pss_one (ps_ret (pe_lst (pa_cons (pv 6) pa_nil))))))))))), ?_⟩
    -- what has a rest, and what is left
    refine ⟨fun σ H' => ∃ (B1 : Hp) (D : Addr) (rs : List V), σ = [some (.int B), some (.ref a), some (.ref D), none, none, none, none, none, none, none, none] ∧ Own B1 [(D, .lst rs)] H' ∧ Same H B1 ∧ RowsT B1 rs (prs (l.map (rst B))), ?_, ?_⟩
    · have turn : ∀ (i : Nat) (x : V) (D : Addr) (H' : Hp), xs[i]? = some x → (∃ (B1 : Hp) (rs : List V), Own B1 [(D, .lst rs)] H' ∧ Same H B1 ∧ RowsT B1 rs (prs ((l.take i).map (rst B)))) →
        ∃ (il : i < l.length) (q : Addr) (B1 : Hp) (rs : List V), x = .ref q ∧ H' q = some (.tup [.int l[i].1, .int l[i].2]) ∧ Own B1 [(D, .lst rs)] H' ∧ Same H B1 ∧ RowsT B1 rs (prs ((l.take i).map (rst B))) ∧ rs.length = i := by
        rintro i x D H' hi ⟨B1, rs, O, s1, hr⟩
        obtain ⟨il, q, rfl, hq⟩ := prs_at hR hi
        refine ⟨il, q, B1, rs, rfl, O.st _ _ (s1 _ _ hq), O, s1, hr, ?_⟩
        have := hr.1
        rw [List.length_map, List.length_map, List.length_take] at this
        omega
      walk_at "g"
      rcases hE with hE | hE
      · refine .inl ?_
        walk_at "g"
        refine ⟨a, rfl, ⟨_, SqL.of hE⟩, fun D hD => ?_⟩
        replace O := Own.new (o := .lst []) O hD
        refine lc_list (xs := xs) (fun i H' => ∃ (B1 : Hp) (rs : List V), Own B1 [(D, .lst rs)] H' ∧ Same H B1 ∧ RowsT B1 rs (prs ((l.take i).map (rst B)))) ⟨H, [], O, Same.refl H, RowsT.nil H⟩ (fun i H' _ ⟨B1, rs, O, s1, _⟩ => SqL.of (O.st _ _ (s1 _ _ hE))) ?_ ?_
        · clear O
          intro i x H' hi hp
          obtain ⟨il, q, B1, rs, rfl, hq, O, s1, hr, rl⟩ := turn i x D H' hi hp
          refine a_gtup (SqT.of hq) rfl ?_
          walk_at "g"
          refine ⟨rfl, ?_⟩
          walk_at "g"; walk_at "mkT"; intro q1 H2 hq1 O
          refine ⟨_, O.get 1 rfl, Nat.lt_of_lt_of_le (show _ < 1000 by omega) (by decide), ?_⟩
          replace O := Own.put (u := .lst (rs ++ [.ref q1])) O 1 rfl
          have O2 : Own _ [(D, .lst (rs ++ [.ref q1]))] _ := Own.fix O
          have s2 := Own.fixS O
          refine ⟨_, _, O2, s1.trans s2, ?_⟩
          rw [take_snoc il, List.map_append, prs, List.map_append]
          exact (hr.same s2).snoc (ns := [(rst B l[i]).1, (rst B l[i]).2]) upd_same
        · clear O
          rintro H' ⟨B1, rs, O, s1, hr⟩
          rw [List.take_of_length_le (by omega)] at hr
          walk_at "g"
          exact ⟨B1, D, rs, rfl, O, s1, hr⟩
      · refine .inr ?_
        walk_at "g"
        refine ⟨a, rfl, ⟨_, SqT.of hE⟩, fun D hD => ?_⟩
        replace O := Own.new (o := .lst []) O hD
        refine lc_tup (xs := xs) (fun i H' => ∃ (B1 : Hp) (rs : List V), Own B1 [(D, .lst rs)] H' ∧ Same H B1 ∧ RowsT B1 rs (prs ((l.take i).map (rst B)))) ⟨H, [], O, Same.refl H, RowsT.nil H⟩ (fun i H' _ ⟨B1, rs, O, s1, _⟩ => SqT.of (O.st _ _ (s1 _ _ hE))) ?_ ?_
        · clear O
          intro i x H' hi hp
          obtain ⟨il, q, B1, rs, rfl, hq, O, s1, hr, rl⟩ := turn i x D H' hi hp
          refine a_gtup (SqT.of hq) rfl ?_
          walk_at "g"
          refine ⟨rfl, ?_⟩
          walk_at "g"; walk_at "mkT"; intro q1 H2 hq1 O
          refine ⟨_, O.get 1 rfl, Nat.lt_of_lt_of_le (show _ < 1000 by omega) (by decide), ?_⟩
          replace O := Own.put (u := .lst (rs ++ [.ref q1])) O 1 rfl
          have O2 : Own _ [(D, .lst (rs ++ [.ref q1]))] _ := Own.fix O
          have s2 := Own.fixS O
          refine ⟨_, _, O2, s1.trans s2, ?_⟩
          rw [take_snoc il, List.map_append, prs, List.map_append]
          exact (hr.same s2).snoc (ns := [(rst B l[i]).1, (rst B l[i]).2]) upd_same
        · clear O
          rintro H' ⟨B1, rs, O, s1, hr⟩
          rw [List.take_of_length_le (by omega)] at hr
          walk_at "g"
          exact ⟨B1, D, rs, rfl, O, s1, hr⟩
    · clear O hE hR xs xl
      rintro σ H' ⟨B1, D, rs, rfl, O, s1, hr⟩
      have rl : rs.length = l.length := by have := hr.1; rw [List.length_map, List.length_map] at this; exact this
      have at1 : ∀ (H' : Hp) (i : Nat) (x : V), Same B1 H' → rs[i]? = some x → ∃ (il : i < l.length) (q : Addr), x = .ref q ∧ H' q = some (.tup [.int (rst B l[i]).1, .int (rst B l[i]).2]) := fun H' i x s hx => by
        obtain ⟨il, q, e1, e2⟩ := prs_at hr hx
        rw [List.length_map] at il
        refine ⟨il, q, e1, s _ _ ?_⟩
        rw [e2, List.getElem_map]
      walk_at "g"
      refine ⟨D, rfl, ⟨_, Own.sq O 0 rfl⟩, fun D1 hD1 => ?_⟩
      replace O := Own.new (o := .lst []) O hD1
      refine lc_list (xs := rs) (fun i H' => ∃ bs : List Bool, Own B1 [(D1, .lst (bs.map V.bl)), (D, .lst rs)] H' ∧ bs.length ≤ i ∧ bs.all id = (l.take i).all fun p => !decide ((rst B p).1 = 0) || decide ((rst B p).2 = 0)) ⟨[], O, Nat.le_refl 0, rfl⟩ (fun i H' _ ⟨bs, O, _⟩ => Own.sq O 1 rfl) ?_ ?_
      · clear O
        rintro i x H' hi ⟨bs, O, bl, ba⟩
        obtain ⟨il, q, rfl, hq⟩ := at1 H' i x O.st hi
        refine a_gtup (SqT.of hq) rfl ?_
        walk_at "g"
        refine ⟨rfl, ?_⟩
        walk_at "g"
        refine a_it2 (fun c => ?_) (fun c => ?_)
        · walk_at "g"
          refine ⟨_, O.get 0 rfl, Nat.lt_of_lt_of_le (show _ < 1000 by rw [List.length_map]; omega) (by decide), ?_⟩
          refine ⟨bs ++ [decide ((rst B l[i]).2 = 0)], ?_, by rw [List.length_append, List.length_singleton]; omega, ?_⟩
          · rw [List.map_append]
            exact Own.put O 0 rfl
          · rw [take_snoc il, List.all_append, List.all_append, ba]
            simp [c]
        · refine ⟨bs, O, by omega, ?_⟩
          rw [take_snoc il, List.all_append, ba]
          simp [c]
      clear O
      rintro H' ⟨bs, O, bl, ba⟩
      rw [List.take_of_length_le (by omega)] at ba
      walk_at "g"
      refine ⟨D1, bs, rfl, Own.sq O 0 rfl, ?_⟩
      rw [ba]
      replace O := O.tail
      walk_at "g"
      refine a_niB (fun e => ?_) (fun e => ?_)
      · have hz : ∀ p ∈ l, (rst B p).1 = 0 → (rst B p).2 = 0 := fun p hp z => by
          have q := List.all_eq_true.mp e p hp
          rw [decide_eq_true z] at q
          simpa using q
        walk_at "g"
        refine ⟨D, rfl, ⟨_, Own.sq O 0 rfl⟩, fun D2 hD2 => ?_⟩
        replace O := Own.new (o := .lst []) O hD2
        refine lc_list (xs := rs) (fun i H' => ∃ (B2 : Hp) (ss : List V), Own B2 [(D2, .lst ss), (D, .lst rs)] H' ∧ Same B1 B2 ∧ ss.length ≤ i ∧ RowsT B2 ss (prs (((l.take i).map (rst B)).filter fun p => !decide (p.1 = 0)))) ⟨B1, [], O, Same.refl B1, Nat.le_refl 0, RowsT.nil B1⟩ (fun i H' _ ⟨B2, ss, O, _⟩ => Own.sq O 1 rfl) ?_ ?_
        · clear O
          rintro i x H' hi ⟨B2, ss, O, s2, sl, hs⟩
          obtain ⟨il, q, rfl, hq⟩ := at1 H' i x (s2.trans O.st) hi
          refine a_gtup (SqT.of hq) rfl ?_
          walk_at "g"
          refine ⟨rfl, ?_⟩
          walk_at "g"
          refine a_ni2 (fun c => ?_) (fun c => ?_)
          · refine ⟨B2, ss, O, s2, by omega, ?_⟩
            rw [take_snoc il, List.map_append, List.filter_append, show ([l[i]].map (rst B)).filter (fun p => !decide (p.1 = 0)) = [] by simp [c], List.append_nil]
            exact hs
          · walk_at "g"; walk_at "mkT"; intro q1 H2 hq1 O
            refine ⟨_, O.get 1 rfl, Nat.lt_of_lt_of_le (show _ < 1000 by omega) (by decide), ?_⟩
            replace O := Own.put (u := .lst (ss ++ [.ref q1])) O 1 rfl
            have O2 : Own _ [(D2, .lst (ss ++ [.ref q1])), (D, .lst rs)] _ := Own.fix O
            have s3 := Own.fixS O
            refine ⟨_, _, O2, s2.trans s3, by rw [List.length_append, List.length_singleton]; omega, ?_⟩
            rw [take_snoc il, List.map_append, List.filter_append, show ([l[i]].map (rst B)).filter (fun p => !decide (p.1 = 0)) = [rst B l[i]] by simp [c], prs, List.map_append]
            exact (hs.same s3).snoc (ns := [(rst B l[i]).1, (rst B l[i]).2]) upd_same
        clear O
        rintro H' ⟨B2, ss, O, s2, sl, hs⟩
        rw [List.take_of_length_le (by omega)] at hs
        have hmem : ∀ r, r ∈ (l.map (rst B)).filter (fun p => !decide (p.1 = 0)) ↔ ∃ p ∈ l, rst B p = r ∧ r.1 ≠ 0 := fun r => by
          rw [List.mem_filter, List.mem_map]
          constructor
          · rintro ⟨⟨p, hp, e1⟩, e2⟩
            exact ⟨p, hp, e1, by simpa using e2⟩
          · rintro ⟨p, hp, e1, e2⟩
            exact ⟨⟨p, hp, e1⟩, by simpa using e2⟩
        generalize hR : (l.map (rst B)).filter (fun p => !decide (p.1 = 0)) = R at *
        have sR : ss.length = R.length := by have := hs.1; rw [List.length_map] at this; exact this
        walk_at "g"; walk_at "mkL"; intro e0 H3 he0 O
        walk_at "g"
        refine a_eqRows0 (hs.same O.st) (Own.sq O 1 rfl) (Own.sq O 0 rfl) ?_
        replace O := O.tail
        walk_at "g"
        cases R with
        | nil =>
          refine a_tt ?_
          walk_at "g"
          refine ⟨_, _, rfl, rfl, ⟨by omega, by omega, by omega, by omega, by decide⟩, fun p hp => ?_⟩
          replace O := Own.new (o := .lst (rgV (-100) (100 + 1))) O hp
          refine h p _ ((s1.trans s2).trans O.st) (s1.free (s2.free (O.no (p, _) List.mem_cons_self))) ?_
          rw [facs_all (l := l) (B := B) fun p hp => ?_]
          · rw [O.get 0 rfl]
            congr 2
          · have n : (rst B p).1 = 0 := by
              by_cases z : (rst B p).1 = 0
              · exact z
              · exact absurd ((hmem (rst B p)).mpr ⟨p, hp, rfl, z⟩) List.not_mem_nil
            exact ⟨n, hz p hp n⟩
        | cons r0 R =>
          refine a_ff ?_
          walk_at "g"
          have at2 : ∀ (H' : Hp) (i : Nat) (x : V), Same B2 H' → ss[i]? = some x → ∃ (il : i < (r0 :: R).length) (q : Addr), x = .ref q ∧ H' q = some (.tup [.int (r0 :: R)[i].1, .int (r0 :: R)[i].2]) := fun H' i x s hx => by
            obtain ⟨il, q, e1, e2⟩ := prs_at hs hx
            exact ⟨il, q, e1, s _ _ e2⟩
          have s0 : 0 < ss.length := by rw [sR]; exact Nat.zero_lt_succ _
          obtain ⟨_, q0, e0, hq0⟩ := at2 H3 0 ss[0] O.st (List.getElem?_eq_getElem s0)
          have hq0 : H3 q0 = some (.tup [.int r0.1, .int r0.2]) := hq0
          refine a_ixL (Own.sq O 0 rfl) (at0 (j := 0) rfl (by rw [List.getElem?_eq_getElem s0, e0])) ?_
          refine a_gtup (SqT.of hq0) rfl ?_
          obtain ⟨p0, hp0, e1, e2⟩ := (hmem r0).mp List.mem_cons_self
          have m0 := ml p0
          rw [e1] at m0
          have r1 : 0 < r0.1 := by omega
          walk_at "g"
          have fin : facs B l = if (-100 ≤ r0.2 / r0.1 ∧ r0.2 / r0.1 ≤ 100) ∧ (∀ p ∈ l, (rst B p).1 ≠ 0 → (rst B p).1 * (r0.2 / r0.1) = (rst B p).2) then [r0.2 / r0.1] else [] := facs_one r1 ⟨p0, hp0, e1⟩ hz
          generalize r0.2 / r0.1 = t at *
          have sB : Same H H3 := (s1.trans s2).trans O.st
          refine a_it2 (fun c => ?_) (fun c => ?_)
          · walk_at "g"; walk_at "mkL"; intro p H4 hp O
            walk_at "g"
            refine h p H4 ((s1.trans s2).trans O.st) (s1.free (s2.free (O.no (p, _) List.mem_cons_self))) ?_
            rw [fin, if_neg (by omega)]
            exact O.get 0 rfl
          · walk_at "g"
            refine ⟨D2, rfl, ⟨_, Own.sq O 0 rfl⟩, fun D3 hD3 => ?_⟩
            replace O := Own.new (o := .lst []) O hD3
            refine lc_list (xs := ss) (fun i H' => ∃ bs : List Bool, Own B2 [(D3, .lst (bs.map V.bl)), (D2, .lst ss), (D, .lst rs)] H' ∧ bs.length ≤ i ∧ bs.all id = ((r0 :: R).take i).all fun p => decide (p.1 * t = p.2)) ⟨[], O, Nat.le_refl 0, rfl⟩ (fun i H' _ ⟨bs, O, _⟩ => Own.sq O 1 rfl) ?_ ?_
            · clear O
              rintro i x H' hi ⟨bs, O, bl, ba⟩
              obtain ⟨il, q, rfl, hq⟩ := at2 H' i x O.st hi
              have il2 : i < 10 := by omega
              obtain ⟨p1, hp1, f1, f2⟩ := (hmem _).mp (List.getElem_mem il)
              have m1 := ml p1
              rw [f1] at m1
              refine a_gtup (SqT.of hq) rfl ?_
              walk_at "g"
              refine ⟨rfl, ?_⟩
              walk_at "g"
              refine ⟨_, O.get 0 rfl, Nat.lt_of_lt_of_le (show _ < 1000 by rw [List.length_map]; omega) (by decide), ?_⟩
              refine ⟨bs ++ [decide ((r0 :: R)[i].1 * t = (r0 :: R)[i].2)], ?_, by rw [List.length_append, List.length_singleton]; omega, ?_⟩
              · rw [List.map_append]
                exact Own.put O 0 rfl
              · rw [take_snoc il, List.all_append, List.all_append, ba]
                simp
            clear O
            rintro H' ⟨bs, O, bl, ba⟩
            rw [List.take_of_length_le (by omega)] at ba
            walk_at "g"
            refine ⟨D3, bs, rfl, Own.sq O 0 rfl, ?_⟩
            rw [ba]
            have iff : ((r0 :: R).all fun p => decide (p.1 * t = p.2)) = true ↔ ∀ p ∈ l, (rst B p).1 ≠ 0 → (rst B p).1 * t = (rst B p).2 := by
              rw [List.all_eq_true]
              constructor
              · intro k p hp z
                exact of_decide_eq_true (k _ ((hmem _).mpr ⟨p, hp, rfl, z⟩))
              · intro k r hr
                obtain ⟨p, hp, rfl, z⟩ := (hmem r).mp hr
                exact decide_eq_true (k p hp z)
            walk_at "g"
            refine a_niB (fun e => ?_) (fun e => ?_)
            · walk_at "g"; walk_at "mkL"; intro p H4 hp O
              walk_at "g"
              refine h p H4 ((s1.trans s2).trans O.st) (s1.free (s2.free (O.no (p, _) List.mem_cons_self))) ?_
              rw [fin, if_pos ⟨by omega, iff.mp e⟩]
              exact O.get 0 rfl
            · walk_at "g"; walk_at "mkL"; intro p H4 hp O
              walk_at "g"
              refine h p H4 ((s1.trans s2).trans O.st) (s1.free (s2.free (O.no (p, _) List.mem_cons_self))) ?_
              rw [fin, if_neg (fun z => by rw [iff.mpr z.2] at e; cases e)]
              exact O.get 0 rfl
      · walk_at "g"; walk_at "mkL"; intro p H2 hp O
        walk_at "g"
        refine h p H2 (s1.trans O.st) (s1.free (O.no (p, _) List.mem_cons_self)) ?_
        rw [facs_zero (l := l) (B := B) ?_]
        · exact O.get 0 rfl
        · rw [List.all_eq_false] at e
          obtain ⟨p, hp, e⟩ := e
          refine ⟨p, hp, ?_⟩
          simpa using e

/-! ### fitting -/
-- @NEEDS need_pairs factors_of
def sp_fitting : Sp := fun vs H Q _ => ∃ (a : Addr) (xs : List V) (l : List (Int × Int)), vs = [.ref a] ∧ EAt H a xs ∧ RowsT H xs (prs l) ∧ (1 ≤ l.length ∧ l.length ≤ 10) ∧ PairsOk l ∧
  ∀ p ys H', Same H H' → H p = none → H' p = some (.lst ys) → RowsT H' ys (fitAll l 15) → Q (.ref p) H'
theorem pow_smallF {b k : Int} (hb : 2 ≤ b ∧ b ≤ 16) (hk : 1 ≤ k ∧ k ≤ 2) : 2 ≤ b ^ k.toNat ∧ b ^ k.toNat ≤ 256 := by
  have e : k = 1 ∨ k = 2 := by omega
  rcases e with rfl | rfl
  · have z : b ^ (1 : Int).toNat = b := by rw [show (1 : Int).toNat = 1 from rfl, Int.pow_succ, Int.pow_zero, Int.one_mul]
    rw [z]; omega
  · have z : b ^ (2 : Int).toNat = b * b := by rw [show (2 : Int).toNat = 2 from rfl, Int.pow_succ, Int.pow_succ, Int.pow_zero, Int.one_mul]
    rw [z]
    have h1 : b * 2 ≤ b * b := Int.mul_le_mul_of_nonneg_left hb.1 (by omega)
    have h2 : b * b ≤ 16 * 16 := Int.mul_le_mul hb.2 hb.2 (by omega) (by omega)
    omega
theorem ok_fitting (T : Txt K mg Z) : FnOk P w K mg base CX0 3 Z.f_fitting Z.d_fitting p_fitting sp_fitting := by
  refine T.F_fitting.ok sc_fitting (fun vs H Q E h => ?_) (fun cdv A outer s H vs Q E hr h => ?_)
  · obtain ⟨_, _, _, rfl, _⟩ := h; rfl
  · obtain ⟨a, xs, l, rfl, hE, hR, hl, hok, h⟩ := h
    refine ⟨_, (pss_cons (ps_expr (pe_call (ok_need_pairs T) (hr.mono (by decide)) rfl T.g_need_pairs T.F_need_pairs.kp T.b_need_pairs .nil pass0 (pa_cons (pv 0) pa_nil)))
    (pss_cons (ps_set (i := 1) sc_fitting.nd rfl (Or.inl rfl) (pe_lst pa_nil))
    (pss_cons (ps_for PassesOwn.never rfl (pi_range2 rfl T.n_range (pa_cons (pe_globI rfl T.v_LEAST_BASE) (pa_cons (pe_op op_add (pe_globI rfl T.v_MOST_BASE) pe_int) pa_nil))) (pg_name (i := 2) sc_fitting.nd rfl (Or.inr rfl))
    (pss_one (ps_for PassesOwn.never rfl (pi_range2 rfl T.n_range (pa_cons pe_int (pa_cons (pe_op op_add (pe_globI rfl T.v_MOST_TAKE) pe_int) pa_nil))) (pg_name (i := 3) sc_fitting.nd rfl (Or.inr rfl))
    (pss_one (ps_expr (pe_bm PySem.F.plainAttrs_list PySem.F.slot_list_extend PySem.F.type_list_extend mt_extend (pv 1) (pa_cons (pe_lc (own := [("times", 4)]) (tt := tYes) rfl sc_fitting.nd (pi_list (pe_call (ok_factors_of T) (hr.mono (by decide)) rfl T.g_factors_of T.F_factors_of.kp T.b_factors_of .nil pass0 (pa_cons (pe_call (ok_power T) (hr.mono (by decide)) rfl T.g_power T.F_power.kp T.b_power .nil pass0 (pa_cons (pv 2) (pa_cons (pv 3) pa_nil))) (pa_cons (pv 0) pa_nil)))) (blkOk_by (N := N_fitting) (sc := defScope s_fitting) (by decide +kernel)) (fun _ _ _ _ _ => (pg_name (i := 4) sc_fitting.nd rfl (Or.inl rfl))) (fun _ _ _ _ _ => pts_nil) (fun _ _ _ _ _ => (pe_tup (pa_cons (pv 2) (pa_cons (pv 3) (pa_cons (pv 4) pa_nil)))))) pa_nil)))))))
    (pss_one (ps_ret (pv 1)))))), ?_⟩
    walk_at "g"
    refine ⟨a, xs, l, rfl, hE, hR, hl, hok, fun H0 s0 => ?_⟩
    have O : Own H [] H0 := (Own.refl H).same s0
    walk_at "g"; walk_at "mkL"; intro p H1 hp O
    have hpH : H p = none := s0.free hp
    walk_at "g"
    refine for_range (fun i σ H' => ∃ (B : Hp) (ys : List V) (v2 v3 v4 : Option V), σ = [some (.ref a), some (.ref p), v2, v3, v4] ∧ Own B [(p, .lst ys)] H' ∧ Same H B ∧ RowsT B ys (fitAll l i)) ⟨H, [], _, _, _, rfl, O, Same.refl H, RowsT.nil H⟩ ?_ ?_
    · clear O
      rintro i σ H' hi ⟨B, ys, v2, v3, v4, rfl, O, sB, hr⟩
      have i15 : i < 15 := hi
      have al := fitAll_len l i
      walk_at "g"
      refine for_range (fun j σ H' => ∃ (B : Hp) (ys : List V) (v3 v4 : Option V), σ = [some (.ref a), some (.ref p), some (.int (2 + (i : Int))), v3, v4] ∧ Own B [(p, .lst ys)] H' ∧ Same H B ∧ RowsT B ys (fitAll l i ++ fitRow l (2 + (i : Int)) j)) ⟨B, ys, _, _, rfl, O, sB, by rw [fitRow, List.append_nil]; exact hr⟩ ?_ ?_
      · clear O hr sB
        rintro j σ H' hj ⟨B, ys, v3, v4, rfl, O, sB, hr⟩
        have j2 : j < 2 := hj
        have rl := fitRow_len l (2 + (i : Int)) j
        have bs := pow_smallF (b := 2 + (i : Int)) (k := 1 + (j : Int)) (by omega) (by omega)
        have yl : ys.length ≤ 402 * i + 201 * j := by rw [hr.1, List.length_append]; omega
        walk_at "g"
        refine ⟨.inl ⟨rfl, _, Own.sq O 0 rfl⟩, ?_⟩
        walk_at "g"
        have sH : Same H H' := sB.trans O.st
        refine ⟨(2 + (i : Int)) ^ (1 + (j : Int)).toNat, a, xs, l, rfl, bs, hE.up sH, hR.same sH, hl.2, fun q H2 s2 hq hq2 => ?_⟩
        replace O := O.got s2 hq hq2
        have fl : (facs ((2 + (i : Int)) ^ (1 + (j : Int)).toNat) l).length ≤ 201 := by
          have := fitB_len l (2 + (i : Int)) (1 + (j : Int))
          unfold fitB at this
          rw [List.length_map] at this
          exact this
        generalize hf : facs ((2 + (i : Int)) ^ (1 + (j : Int)).toNat) l = fs at *
        refine ⟨q, rfl, ⟨_, Own.sq O 0 rfl⟩, fun D hD => ?_⟩
        replace O := Own.new (o := .lst []) O hD
        refine lc_list (xs := fs.map V.int) (fun m H' => ∃ (B2 : Hp) (zs : List V), Own B2 [(D, .lst zs), (q, .lst (fs.map V.int)), (p, .lst ys)] H' ∧ Same B B2 ∧ RowsT B2 zs ((fs.take m).map fun t => [2 + (i : Int), 1 + (j : Int), t])) ⟨B, [], O, Same.refl B, RowsT.nil B⟩ (fun m H' _ ⟨_, _, O, _⟩ => Own.sq O 1 rfl) ?_ ?_
        · clear O
          rintro m x H' hm ⟨B2, zs, O, s3, hz⟩
          rw [List.getElem?_map] at hm
          obtain ⟨t, ht, rfl⟩ := Option.map_eq_some_iff.mp hm
          obtain ⟨ml, et⟩ := List.getElem?_eq_some_iff.mp ht
          have zl : zs.length ≤ 201 := by rw [hz.1, List.length_map, List.length_take]; omega
          walk_at "g"
          refine ⟨rfl, ?_⟩
          walk_at "g"; walk_at "mkT"; intro q1 H3 hq1 O
          refine ⟨_, O.get 1 rfl, Nat.lt_of_lt_of_le (show _ < 1000 by omega) (by decide), ?_⟩
          replace O := Own.put (u := .lst (zs ++ [.ref q1])) O 1 rfl
          have O2 : Own _ [(D, .lst (zs ++ [.ref q1])), (q, .lst (fs.map V.int)), (p, .lst ys)] _ := Own.fix O
          have s4 := Own.fixS O
          refine ⟨_, _, O2, s3.trans s4, ?_⟩
          rw [take_snoc ml, List.map_append, et]
          exact (hz.same s4).snoc (ns := [2 + (i : Int), 1 + (j : Int), t]) upd_same
        clear O
        rintro H' ⟨B2, zs, O, s3, hz⟩
        rw [List.length_map, List.take_length] at hz
        have zl : zs.length ≤ 201 := by rw [hz.1, List.length_map]; omega
        walk_at "g"
        refine ⟨p, D, ys, zs, rfl, rfl, O.get 2 rfl, O.get 0 rfl, Nat.le_trans (show _ ≤ 10000 by omega) (by decide), ?_⟩
        replace O := Own.put (u := .lst (ys ++ zs)) O 2 rfl
        replace O := O.drop 2
        simp only [List.set, List.drop] at O
        walk_at "g"
        refine ⟨B2, ys ++ zs, _, _, rfl, O, sB.trans s3, ?_⟩
        have e : fitB l (2 + (i : Int)) (1 + (j : Int)) = fs.map fun t => [2 + (i : Int), 1 + (j : Int), t] := by unfold fitB; rw [hf]
        rw [fitRow, ← List.append_assoc, e]
        exact (hr.same s3).app hz
      · clear O hr sB
        rintro σ H' ⟨B, ys, v3, v4, rfl, O, sB, hr⟩
        walk_at "g"
        exact ⟨B, ys, _, _, _, rfl, O, sB, hr⟩
    · clear O
      rintro σ H' ⟨B, ys, v2, v3, v4, rfl, O, sB, hr⟩
      walk_at "g"
      exact h p ys H' (sB.trans O.st) hpH (O.get 0 rfl) (hr.same O.st)

/-! ### law_taken -/
/-- the row of draws as it stands -/
def RowOk (sc : Addr) (o : HO) : Prop := ∃ i s c : Int, o = .lst [.ref sc, .int i, .int s, .int c] ∧ 0 ≤ i ∧ 0 ≤ s ∧ s < 2147483647 ∧ 0 ≤ c
def sp_law_taken (K : Frag) : Sp := fun vs H Q _ => ∃ (row sc : Addr) (o : HO) (ns : List Int) (m : Int), vs = [.ref row, .int m] ∧ H row = some o ∧ RowOk sc o ∧ SqL K H sc (ns.map V.int) ∧ 0 < m ∧ m < 10 ^ 60 ∧
  ∀ (r : Int) (o' : HO) (H' : Hp), 0 ≤ r → r < m → RowOk sc o' → H' row = some o' → (∀ b v, b ≠ row → H b = some v → H' b = some v) → Q (.int r) H'
theorem row_ne {K : Frag} {H : Hp} {row sc : Addr} {o : HO} {ns : List Int} (h : H row = some o) (r : RowOk sc o) (hs : SqL K H sc (ns.map V.int)) : SqL K (del1 H row) sc (ns.map V.int) := by
  obtain ⟨i, s, c, rfl, _⟩ := r
  have d : ∀ ns : List Int, (ns.map V.int) ≠ [.ref sc, .int i, .int s, .int c] := fun ns e => by
    cases ns with
    | nil => cases e
    | cons a l => injection e with e1 _; cases e1
  rcases hs with (hs | ⟨q, hs⟩) | hs
  · have ne : sc ≠ row := fun z => by
      rw [z, h] at hs
      injection hs with e
      injection e with e
      exact d ns e.symm
    exact .inl (.inl (by rw [del1_ne ne]; exact hs))
  · have ne : sc ≠ row := fun z => by
      rw [z, h] at hs
      injection hs with e
      cases e
    exact .inl (.inr ⟨q, by rw [del1_ne ne]; exact hs⟩)
  · exact .inr hs
theorem use_law_taken {K : Frag} {B H : Hp} {Lw : List (Addr × HO)} {row sc : Addr} {o : HO} {ns : List Int} {m : Int} {Q : VK} {E : XK} (O : Own B Lw H) (i : Nat) (hi : Lw[i]? = some (row, o)) (ho : RowOk sc o) (hs : SqL K B sc (ns.map V.int)) (h1 : 0 < m ∧ m < 10 ^ 60)
    (h : ∀ (r : Int) (o' : HO) (H' : Hp), 0 ≤ r → r < m → RowOk sc o' → Own B (Lw.set i (row, o')) H' → Q (.int r) H') : sp_law_taken K ([.ref row, .int m] ++ []) H Q E :=
  ⟨row, sc, o, ns, m, rfl, O.get i hi, ho, O.seq hs, h1.1, h1.2, fun r o' H' hr0 hr1 ho' h1 h2 => h r o' H' hr0 hr1 ho' (O.but i hi h2 h1)⟩
theorem ok_law_taken (T : Txt K mg Z) : FnOk P w K mg base CX0 1 Z.f_law_taken Z.d_law_taken p_law_taken (sp_law_taken K) := by
  refine T.F_law_taken.ok sc_law_taken (fun vs H Q E h => ?_) (fun cdv A outer s H vs Q E hr h => ?_)
  · obtain ⟨_, _, _, _, _, rfl, _⟩ := h; rfl
  · obtain ⟨row, sc, o, ns, m, rfl, hrow, hok, hs, hm0, hm1, h⟩ := h
    have hs1 := row_ne hrow hok hs
    have O := Own.refl1 hrow
    obtain ⟨i, s0, c, rfl, hi0, hs0, hs2, hc0⟩ := hok
    refine ⟨_, (pss_cons (ps_if (pt_cmpR op_gt (pe_ix (r := rIxL K) ix_list (pv 0) pe_int (fun _ _ => rfl)) pe_int (nomark _)) (pss_cons (ps_set (i := 2) sc_law_taken.nd rfl (Or.inl rfl) (pe_op op_mod (pe_callTy call_int1 (by rfl) T.n_int boot_int (pa_cons (pe_ix (r := rIxL K) ix_list (pv 0) pe_int (fun _ _ => rfl)) pa_nil)) (pv 1)))
    (pss_cons (ps_asg (pe_op op_fdivW (pe_ix (r := rIxL K) ix_list (pv 0) pe_int (fun _ _ => rfl)) (pv 1)) (pg_sub (pv 0) pe_int set_list))
    (pss_one (ps_ret (pv 2))))) pss_nil)
    (pss_cons (ps_asg (pe_op op_add (pe_ix (r := rIxL K) ix_list (pv 0) pe_int (fun _ _ => rfl)) pe_int) (pg_sub (pv 0) pe_int set_list))
    (pss_cons (ps_if (pt_cmpR op_gt (pe_ix (r := rIxL K) ix_list (pv 0) pe_int (fun _ _ => rfl)) (pe_callB (r := R.rLen K) call_lenR (by rfl) T.n_len boot_len (pa_cons (pe_ix (r := rIxL K) ix_list (pv 0) pe_int (fun _ _ => rfl)) pa_nil)) (nomark _)) (pss_cons (ps_asg (pe_op op_mod (pe_callTy call_int1 (by rfl) T.n_int boot_int (pa_cons (pe_op op_add (pe_op op_mulX (pe_ix (r := rIxL K) ix_list (pv 0) pe_int (fun _ _ => rfl)) pe_int) pe_int) pa_nil)) pe_int) (pg_sub (pv 0) pe_int set_list))
    (pss_one (ps_ret (pe_op op_mod (pe_callTy call_int1 (by rfl) T.n_int boot_int (pa_cons (pe_op op_fdivW (pe_ix (r := rIxL K) ix_list (pv 0) pe_int (fun _ _ => rfl)) pe_int) pa_nil)) (pv 1))))) pss_nil)
    (pss_cons (ps_set (i := 3) sc_law_taken.nd rfl (Or.inl rfl) (pe_ix (r := rIxL K) ix_list (pe_ix (r := rIxL K) ix_list (pv 0) pe_int (fun _ _ => rfl)) (pe_op op_sub (pe_ix (r := rIxL K) ix_list (pv 0) pe_int (fun _ _ => rfl)) pe_int) (fun _ _ => rfl)))
    (pss_cons (ps_asg (pe_op op_mod (pe_callTy call_int1 (by rfl) T.n_int boot_int (pa_cons (pe_op op_add (pe_op op_add (pe_op op_mulX (pe_ix (r := rIxL K) ix_list (pv 0) pe_int (fun _ _ => rfl)) pe_int) (pv 3)) pe_int) pa_nil)) pe_int) (pg_sub (pv 0) pe_int set_list))
    (pss_cons (ps_if (pt_cmpR op_ge (pv 3) (pe_op op_pow pe_int pe_int) (nomark _)) (pss_one (ps_asg (pe_op op_fdivW (pv 3) (pv 1)) (pg_sub (pv 0) pe_int set_list))) pss_nil)
    (pss_one (ps_ret (pe_op op_mod (pe_callTy call_int1 (by rfl) T.n_int boot_int (pa_cons (pv 3) pa_nil)) (pv 1)))))))))), ?_⟩
    walk_at "g"
    refine a_it2 (fun c1 => ?_) (fun c1 => ?_)
    · walk_at "g"
      refine h _ _ _ (Int.emod_nonneg _ (by omega)) (Int.emod_lt_of_pos _ hm0) ?_ (Own.get (by assumption) 0 rfl) (Own.toBut (by assumption))
      exact ⟨_, _, _, rfl, hi0, hs0, hs2, Int.ediv_nonneg hc0 (by omega)⟩
    · walk_at "g"
      refine a_it2 (fun c2 => ?_) (fun c2 => ?_)
      · walk_at "g"
        refine h _ _ _ (Int.emod_nonneg _ (by omega)) (Int.emod_lt_of_pos _ hm0) ?_ (Own.get (by assumption) 0 rfl) (Own.toBut (by assumption))
        exact ⟨_, _, _, rfl, by omega, by omega, by omega, hc0⟩
      · rw [List.length_map] at c2
        have hlt : i.toNat < ns.length := by omega
        walk_at "g"
        refine a_ixL (v := .int (ns[i.toNat])) (Own.seq (by assumption) hs1) (at0 (j := i.toNat) (by omega) (by rw [List.getElem?_map, List.getElem?_eq_getElem hlt]; rfl)) ?_
        generalize ns[i.toNat] = cell
        walk_at "g"
        refine a_it2 (fun c3 => ?_) (fun c3 => ?_)
        · walk_at "g"
          refine h _ _ _ (Int.emod_nonneg _ (by omega)) (Int.emod_lt_of_pos _ hm0) ?_ (Own.get (by assumption) 0 rfl) (Own.toBut (by assumption))
          exact ⟨_, _, _, rfl, by omega, by omega, by omega, Int.ediv_nonneg (by omega) (by omega)⟩
        · walk_at "g"
          refine h _ _ _ (Int.emod_nonneg _ (by omega)) (Int.emod_lt_of_pos _ hm0) ?_ (Own.get (by assumption) 0 rfl) (Own.toBut (by assumption))
          exact ⟨_, _, _, rfl, by omega, by omega, by omega, hc0⟩

/-! ### law_power -/
def sp_law_power : Sp := fun vs H Q _ => ∃ b m : Int, vs = [.int b, .int m] ∧ -(2 ^ 62) ≤ m ∧ m < 2 ^ 62 ∧ -(2 ^ 64) < b ∧ b < 2 ^ 64 ∧ Q (.int (b ^ m.toNat)) H
theorem use_law_power {b m : Int} {H : Hp} {Q : VK} {E : XK} (h1 : -(2 ^ 62) ≤ m ∧ m < 2 ^ 62 ∧ -(2 ^ 64) < b ∧ b < 2 ^ 64) (h : Q (.int (b ^ m.toNat)) H) : sp_law_power ([.int b, .int m] ++ []) H Q E := ⟨_, _, rfl, h1.1, h1.2.1, h1.2.2.1, h1.2.2.2, h⟩
theorem ok_law_power (T : Txt K mg Z) : FnOk P w K mg base CX0 1 Z.f_law_power Z.d_law_power p_law_power sp_law_power := by
  refine T.F_law_power.ok sc_law_power (fun vs H Q E h => ?_) (fun cdv A outer s H vs Q E hr h => ?_)
  · obtain ⟨_, _, rfl, _⟩ := h; rfl
  · obtain ⟨b, m, rfl, h1, h2, h3, h4, h⟩ := h
    refine ⟨_, (pss_cons (ps_set (i := 2) sc_law_power.nd rfl (Or.inl rfl) pe_int)
    (pss_cons (ps_for PassesOwn.never rfl (pi_range1 rfl T.n_range (pa_cons (pv 1) pa_nil)) (pg_name (i := 3) sc_law_power.nd rfl (Or.inl rfl))
    (pss_one (ps_set (i := 2) sc_law_power.nd rfl (Or.inl rfl) (pe_op op_mulX (pv 2) (pv 0)))))
    (pss_one (ps_ret (pv 2))))), ?_⟩
    walk_at "g"
    refine for_range (fun i σ H' => H' = H ∧ ∃ v, σ = [some (.int b), some (.int m), some (.int (b ^ i)), v]) ⟨rfl, none, by rw [Int.pow_zero]; rfl⟩ ?_ ?_
    · rintro i σ H' hi ⟨rfl, v, rfl⟩
      walk_at "g"
      exact ⟨rfl, _, by rw [Int.pow_succ]; rfl⟩
    · rintro σ H' ⟨rfl, v, rfl⟩
      walk_at "g"
      exact h
-- @USE
local macro_rules | `(tactic| walk_at "c") => `(tactic| ((with_reducible refine use_law_power ?h1 ?h2); (case h1 => omega)))

/-! ### law_trick -/
-- @NEEDS Trick_init
/-- the drawn parts of a trick in a list -/
def toldL (b k t : Int) : HO := .lst [.int b, .int k, .int t]
def Small (sm : Bool) (b k : Int) : Prop := sm = true → b ^ k.toNat ≤ 25
def sp_law_trick (K : Frag) : Sp := fun vs H Q _ => ∃ (row sc : Addr) (o : HO) (ns : List Int) (sm : Bool), vs = [.ref row, .bl sm] ∧ H row = some o ∧ RowOk sc o ∧ SqL K H sc (ns.map V.int) ∧
  ∀ (b k t : Int) (p : Addr) (o' : HO) (H' : Hp), TrickOk b k t → Small sm b k → H p = none → RowOk sc o' → H' row = some o' → H' p = some (toldL b k t) → (∀ b v, b ≠ row → H b = some v → H' b = some v) → Q (.ref p) H'
theorem use_law_trick {K : Frag} {B H : Hp} {Lw : List (Addr × HO)} {row sc : Addr} {o : HO} {ns : List Int} {sm : Bool} {Q : VK} {E : XK} (O : Own B Lw H) (i : Nat) (hi : Lw[i]? = some (row, o)) (ho : RowOk sc o) (hs : SqL K B sc (ns.map V.int))
    (h : ∀ (b k t : Int) (p : Addr) (o' : HO) (H' : Hp), TrickOk b k t → Small sm b k → RowOk sc o' → Own B ((p, toldL b k t) :: Lw.set i (row, o')) H' → Q (.ref p) H') : sp_law_trick K ([.ref row, .bl sm] ++ []) H Q E :=
  ⟨row, sc, o, ns, sm, rfl, O.get i hi, ho, O.seq hs, fun b k t p o' H' h1 h2 hp ho' g1 gp g2 => h b k t p o' H' h1 h2 ho' (Own.butNew O i hi g2 g1 hp gp)⟩
theorem small_of {b k : Int} {sm : Bool} (hb : 2 ≤ b ∧ b ≤ 16) (hk : 1 ≤ k ∧ k ≤ 2) (h : sm = true → 5 < b → k = 1) : Small sm b k := fun e => by
  rcases (show k = 1 ∨ k = 2 by omega) with rfl | rfl
  · have z : b ^ (1 : Int).toNat = b := by rw [show (1 : Int).toNat = 1 from rfl, Int.pow_succ, Int.pow_zero, Int.one_mul]
    rw [z]; omega
  · have z : b ^ (2 : Int).toNat = b * b := by rw [show (2 : Int).toNat = 2 from rfl, Int.pow_succ, Int.pow_succ, Int.pow_zero, Int.one_mul]
    have b5 : b ≤ 5 := by
      by_cases q : 5 < b
      · have := h e q
        omega
      · omega
    rw [z]
    have h2 : b * b ≤ 5 * 5 := Int.mul_le_mul b5 b5 (by omega) (by omega)
    omega
theorem ok_law_trick (T : Txt K mg Z) : FnOk P w K mg base CX0 2 Z.f_law_trick Z.d_law_trick p_law_trick (sp_law_trick K) := by
  refine T.F_law_trick.ok sc_law_trick (fun vs H Q E h => ?_) (fun cdv A outer s H vs Q E hr h => ?_)
  · obtain ⟨_, _, _, _, _, rfl, _⟩ := h; rfl
  · obtain ⟨row, sc, o, ns, sm, rfl, hrow, hok, hs, h⟩ := h
    have hs := row_ne hrow hok hs
    have O := Own.refl1 hrow
    refine ⟨_, (pss_cons (ps_set (i := 2) sc_law_trick.nd rfl (Or.inr rfl) (pe_ix (r := rIxL K) ix_list (pe_lst (pa_cons pe_int (pa_cons pe_int (pa_cons pe_int (pa_cons pe_int (pa_cons pe_int (pa_cons pe_int (pa_cons (pe_op op_add pe_int (pe_call (ok_law_taken T) (hr.mono (by decide)) rfl T.g_law_taken T.F_law_taken.kp T.b_law_taken .nil pass0 (pa_cons (pv 0) (pa_cons pe_int pa_nil)))) pa_nil)))))))) (pe_call (ok_law_taken T) (hr.mono (by decide)) rfl T.g_law_taken T.F_law_taken.kp T.b_law_taken .nil pass0 (pa_cons (pv 0) (pa_cons pe_int pa_nil))) (fun _ _ => rfl)))
    (C8.pss_cut (ps_set (i := 3) sc_law_trick.nd rfl (Or.inr rfl) (pe_ifExp (PW.pt (pw_and (pt_val (pv 1)) (pw_and1 (pt_cmpR op_gt (pv 2) pe_int (nomark _))))) pe_int (pe_op op_add pe_int (pe_call (ok_law_taken T) (hr.mono (by decide)) rfl T.g_law_taken T.F_law_taken.kp T.b_law_taken .nil pass0 (pa_cons (pv 0) (pa_cons pe_int pa_nil))))))
    (pss_cons (ps_set (i := 4) sc_law_trick.nd rfl (Or.inl rfl) (pe_ix (r := rIxL K) ix_list (pe_lst (pa_cons pe_int (pa_cons (pe_un un_neg pe_int) (pa_cons (pe_un un_neg pe_int) (pa_cons pe_int (pa_cons (pe_op op_sub (pe_call (ok_law_taken T) (hr.mono (by decide)) rfl T.g_law_taken T.F_law_taken.kp T.b_law_taken .nil pass0 (pa_cons (pv 0) (pa_cons pe_int pa_nil))) pe_int) (pa_cons (pe_op op_sub (pe_call (ok_law_taken T) (hr.mono (by decide)) rfl T.g_law_taken T.F_law_taken.kp T.b_law_taken .nil pass0 (pa_cons (pv 0) (pa_cons pe_int pa_nil))) pe_int) pa_nil))))))) (pe_call (ok_law_taken T) (hr.mono (by decide)) rfl T.g_law_taken T.F_law_taken.kp T.b_law_taken .nil pass0 (pa_cons (pv 0) (pa_cons pe_int pa_nil))) (fun _ _ => rfl)))
    (C8.pss_cut (ps_if (pt_cmpR op_eq (pe_call (ok_law_taken T) (hr.mono (by decide)) rfl T.g_law_taken T.F_law_taken.kp T.b_law_taken .nil pass0 (pa_cons (pv 0) (pa_cons pe_int pa_nil))) pe_int (nomark _)) (pss_cons (ps_set (i := 5) sc_law_trick.nd rfl (Or.inr rfl) (pe_op op_add pe_int (pe_call (ok_law_taken T) (hr.mono (by decide)) rfl T.g_law_taken T.F_law_taken.kp T.b_law_taken .nil pass0 (pa_cons (pv 0) (pa_cons pe_int pa_nil)))))
    (pss_cons (ps_setLc (i := 6) rfl sc_law_trick.nd rfl rfl (sw_true rfl rfl rfl (by decide +kernel)) (own := [("_law_one", 7)]) (pi_range1 rfl T.n_range (pa_cons (pv 5) pa_nil)) (blkOk_by (N := N_law_trick) (sc := defScope s_law_trick) (by decide +kernel)) (fun _ _ _ _ _ => (pg_name (i := 7) sc_law_trick.nd rfl (Or.inl rfl))) (fun _ _ _ _ _ => (pts_one (pt_cmpR op_eq (pe_op op_mod (pe_op op_mulX (pv 7) (pe_call (ok_law_power T) (hr.mono (by decide)) rfl T.g_law_power T.F_law_power.kp T.b_law_power .nil pass0 (pa_cons (pv 2) (pa_cons (pv 3) pa_nil)))) (pv 5)) pe_int (nomark _)))) (fun _ _ _ _ _ => (pv 7)))
    (pss_one (ps_set (i := 4) sc_law_trick.nd rfl (Or.inl rfl) (pe_ifExp (pt_cmpR (r := rNeD K) (op_neD hr.units) (pv 6) (pe_lst pa_nil) (nomark _)) (pe_op op_sub (pe_ix (r := rIxL K) ix_list (pv 6) pe_int (fun _ _ => rfl)) (pe_op op_mulX (pv 5) (pe_call (ok_law_taken T) (hr.mono (by decide)) rfl T.g_law_taken T.F_law_taken.kp T.b_law_taken .nil pass0 (pa_cons (pv 0) (pa_cons pe_int pa_nil))))) (pv 4)))))) pss_nil)
    (pss_one (ps_ret (pe_lst (pa_cons (pv 2) (pa_cons (pv 3) (pa_cons (pv 4) pa_nil)))))))))), ?_⟩
    walk_at "g"
    refine use_law_taken O 0 rfl hok hs (by omega) (fun y o H1 hy0 hy1 hok O => ?_)
    walk_at "g"; walk_at "mkL"; intro p H2 hp O
    walk_at "g"
    refine use_law_taken O 1 rfl hok hs (by omega) (fun z o H3 hz0 hz1 hok O => ?_)
    walk_at "g"
    refine a_ixM (ms := [10, 2, 3, 7, 8, 16, 2 + y]) O 0 rfl hz0 hz1 (fun b hb => ?_)
    have hb : 2 ≤ b ∧ b ≤ 16 := by
      simp only [List.mem_cons, List.not_mem_nil, or_false] at hb
      omega
    replace O := O.tail
    walk_at "g"
    -- how many figures
    refine ⟨fun σ H' => ∃ (k : Int) (o : HO) (v4 v5 v6 v7 : Option V), σ = [some (.ref row), some (.bl sm), some (.int b), some (.int k), v4, v5, v6, v7] ∧ (1 ≤ k ∧ k ≤ 2) ∧ (sm = true → 5 < b → k = 1) ∧ RowOk sc o ∧ Own (del1 H row) [(row, o)] H', ?_, ?_⟩
    · walk_at "g"
      refine a_itB (fun e1 => ?_) (fun e1 => ?_)
      · walk_at "g"
        refine a_it2 (fun c => ?_) (fun c => ?_)
        · walk_at "g"
          exact ⟨1, o, _, _, _, _, rfl, by omega, fun _ _ => rfl, hok, O⟩
        · walk_at "g"
          refine use_law_taken O 0 rfl hok hs (by omega) (fun x o H4 hx0 hx1 hok O => ?_)
          walk_at "g"
          exact ⟨_, o, _, _, _, _, rfl, by omega, fun _ q => absurd q c, hok, O⟩
      · walk_at "g"
        refine use_law_taken O 0 rfl hok hs (by omega) (fun x o H4 hx0 hx1 hok O => ?_)
        walk_at "g"
        exact ⟨_, o, _, _, _, _, rfl, by omega, fun q => (by rw [e1] at q; cases q), hok, O⟩
    · clear O hok
      rintro σ H' ⟨k, o, v4, v5, v6, v7, rfl, hk, hsm, hok, O⟩
      walk_at "g"
      refine use_law_taken O 0 rfl hok hs (by omega) (fun t1 o H1 ht10 ht11 hok O => ?_)
      walk_at "g"
      refine use_law_taken O 0 rfl hok hs (by omega) (fun t2 o H1 ht20 ht21 hok O => ?_)
      walk_at "g"; walk_at "mkL"; intro p2 H4 hp2 O
      walk_at "g"
      refine use_law_taken O 1 rfl hok hs (by omega) (fun z2 o H5 hz20 hz21 hok O => ?_)
      walk_at "g"
      refine a_ixM (ms := [1, -1, -2, 0, t1 - 10, t2 - 100]) O 0 rfl hz20 hz21 (fun t ht => ?_)
      have ht : -100 ≤ t ∧ t ≤ 100 := by
        simp only [List.mem_cons, List.not_mem_nil, or_false] at ht
        omega
      replace O := O.tail
      walk_at "g"
      refine ⟨fun σ H' => ∃ (t : Int) (o : HO) (v5 v6 v7 : Option V), σ = [some (.ref row), some (.bl sm), some (.int b), some (.int k), some (.int t), v5, v6, v7] ∧ (-100 ≤ t ∧ t ≤ 100) ∧ RowOk sc o ∧ Own (del1 H row) [(row, o)] H', ?_, ?_⟩
      · walk_at "g"
        refine use_law_taken O 0 rfl hok hs (by omega) (fun x o H6 hx0 hx1 hok O => ?_)
        walk_at "g"
        refine a_it2 (fun c => ?_) (fun c => ?_)
        · walk_at "g"
          refine use_law_taken O 0 rfl hok hs (by omega) (fun d o H7 hd0 hd1 hok O => ?_)
          walk_at "g"
          intro D hD
          replace O := Own.new (o := .lst []) O hD
          refine lc_range (fun i H' => ∃ fs : List Int, (∀ x ∈ fs, 0 ≤ x ∧ x < 2 + d) ∧ fs.length ≤ i ∧ Own (del1 H row) [(D, .lst (fs.map V.int)), (row, o)] H') ⟨[], fun _ h => by simp at h, Nat.le_refl 0, O⟩ ?_ ?_
          · clear O
            rintro i H' hi ⟨fs, hf, hl, O⟩
            walk_at "g"
            refine ⟨rfl, ?_⟩
            have bs := block_small hb hk
            walk_at "g"
            refine a_it2 (fun c2 => ?_) (fun c2 => ?_)
            · walk_at "g"
              refine ⟨_, Own.get O 0 rfl, ?_, ?_⟩
              · rw [List.length_map]
                exact Nat.lt_of_lt_of_le (by omega : fs.length < 1000) (by decide)
              · replace O := Own.put (u := .lst (fs.map V.int ++ [.int (0 + (i : Int))])) O 0 rfl
                refine ⟨fs ++ [0 + (i : Int)], fun y hy => ?_, by rw [List.length_append, List.length_singleton]; omega, ?_⟩
                · rcases List.mem_append.mp hy with z | z
                  · exact hf y z
                  · have e : y = 0 + (i : Int) := by simpa using z
                    omega
                · rw [List.map_append]
                  exact O
            · exact ⟨fs, hf, by omega, O⟩
          · clear O
            rintro H' ⟨fs, hf, hl, O⟩
            walk_at "g"; walk_at "mkL"; intro e He hee O
            walk_at "g"
            cases fs with
            | nil =>
              refine a_neL (ns := []) (Own.sq O 1 rfl) (Own.sq O 0 rfl) ?_
              walk_at "g"
              exact ⟨t, o, _, _, _, rfl, ht, hok, O.tail.tail⟩
            | cons f fs =>
              refine a_neD' (d := pyL (f :: fs)) (e := pyL []) (dp_pyL (Own.sq O 1 rfl)) (dp_pyL (ns := []) (Own.sq O 0 rfl)) (can_pyL _) (Nat.le_trans (dep_pyL _) (by decide)) (can_pyL _) (Nat.le_trans (dep_pyL _) (by decide)) rfl ?_
              have hf0 := hf f List.mem_cons_self
              replace O := O.tail
              walk_at "g"
              refine a_ixI (ms := f :: fs) O 0 rfl (Int.le_refl 0) (Nat.zero_lt_succ _) ?_
              walk_at "g"
              refine use_law_taken O 1 rfl hok hs (by omega) (fun x2 o H8 hx20 hx21 hok O => ?_)
              walk_at "g"
              refine ⟨_, o, _, _, _, rfl, ?_, hok, O.tail⟩
              rcases (show x2 = 0 ∨ x2 = 1 by omega) with rfl | rfl
              · show -100 ≤ f - (2 + d) * 0 ∧ f - (2 + d) * 0 ≤ 100
                rw [Int.mul_zero]; omega
              · show -100 ≤ f - (2 + d) * 1 ∧ f - (2 + d) * 1 ≤ 100
                rw [Int.mul_one]; omega
        · walk_at "g"
          exact ⟨t, o, _, _, _, rfl, ht, hok, O⟩
      · clear O hok
        rintro σ H' ⟨t, o, v5, v6, v7, rfl, ht, hok, O⟩
        walk_at "g"; walk_at "mkL"; intro q H6 hq O
        exact h b k t q o H6 ⟨hb, hk, ht⟩ (small_of hb hk hsm) (Own.was (by assumption : Own (del1 H row) [(row, o)] H') hrow ⟨0, o, rfl⟩ hq) hok (O.get 1 rfl) (O.get 0 rfl) (Own.toBut O)

/-! ### law_behind -/
-- @NEEDS Trick_init law_trick
theorem lbeh_is {b k n : Int} (hb : 2 ≤ b ∧ b ≤ 16) (hk : 1 ≤ k ∧ k ≤ 2) : (n - n % b ^ k.toNat) / b ^ k.toNat = n / b ^ k.toNat := by
  have bs := block_small hb hk
  generalize b ^ k.toNat = m at *
  have e : n - n % m = m * (n / m) := by
    have q := Int.mul_ediv_add_emod n m
    omega
  rw [e]
  exact Int.mul_ediv_cancel_left _ (by omega)
theorem pow1 (b : Int) : b ^ (1 : Int).toNat = b := by rw [show (1 : Int).toNat = 1 from rfl, Int.pow_succ, Int.pow_zero, Int.one_mul]
theorem pow2 (b : Int) : b ^ (2 : Int).toNat = b * b := by rw [show (2 : Int).toNat = 2 from rfl, Int.pow_succ, Int.pow_succ, Int.pow_zero, Int.one_mul]
def sp_law_behind (K : Frag) : Sp := fun vs H Q _ => ∃ (a : Addr) (b k t n : Int), vs = [.ref a, .int n] ∧ SqL K H a [.int b, .int k, .int t] ∧ TrickOk b k t ∧ Q (.int (n / b ^ k.toNat + t * (n % b ^ k.toNat))) H
theorem ok_law_behind (T : Txt K mg Z) : FnOk P w K mg base CX0 1 Z.f_law_behind Z.d_law_behind p_law_behind (sp_law_behind K) := by
  refine T.F_law_behind.ok sc_law_behind (fun vs H Q E h => ?_) (fun cdv A outer s H vs Q E hr h => ?_)
  · obtain ⟨_, _, _, _, _, rfl, _⟩ := h; rfl
  · obtain ⟨a, b, k, t, n, rfl, ha, ⟨hb, hk, ht⟩, h⟩ := h
    refine ⟨_, (pss_cons (ps_asg (pv 0) (pg_lst rfl (pgs_cons (pg_name (i := 2) sc_law_behind.nd rfl (Or.inl rfl)) (pgs_cons (pg_name (i := 3) sc_law_behind.nd rfl (Or.inl rfl)) (pgs_cons (pg_name (i := 4) sc_law_behind.nd rfl (Or.inl rfl)) pgs_nil)))))
    (pss_cons (ps_set (i := 5) sc_law_behind.nd rfl (Or.inl rfl) (pe_ifExp (pt_cmpR op_eq (pv 3) pe_int (nomark _)) (pv 2) (pe_op op_mulX (pv 2) (pv 2))))
    (pss_cons (ps_set (i := 6) sc_law_behind.nd rfl (Or.inl rfl) (pe_op op_mod (pv 1) (pv 5)))
    (pss_one (ps_ret (pe_op op_add (pe_op op_fdivW (pe_op op_sub (pv 1) (pv 6)) (pv 5)) (pe_op op_mulX (pv 4) (pv 6)))))))), ?_⟩
    have bs := block_small hb hk
    have eb := lbeh_is (n := n) hb hk
    walk_at "h"
    refine a_it2 (fun c => ?_) (fun c => ?_)
    · have ek : k = 1 := by omega
      subst ek
      rw [pow1] at h bs eb
      walk_at "g"
      rw [eb]
      exact h
    · have ek : k = 2 := by omega
      subst ek
      rw [pow2] at h bs eb
      have e2 : 0 < b * b := by omega
      walk_at "g"
      rw [eb]
      exact h

/-! ### law_number -/
def sp_law_number (K : Frag) : Sp := fun vs H Q _ => ∃ (row sc : Addr) (o : HO) (ns : List Int), vs = [.ref row] ∧ H row = some o ∧ RowOk sc o ∧ SqL K H sc (ns.map V.int) ∧
  ∀ (n : Int) (o' : HO) (H' : Hp), -(10 ^ 40) ≤ n → n ≤ 10 ^ 40 → RowOk sc o' → H' row = some o' → (∀ b v, b ≠ row → H b = some v → H' b = some v) → Q (.int n) H'
theorem use_law_number {K : Frag} {B H : Hp} {Lw : List (Addr × HO)} {row sc : Addr} {o : HO} {ns : List Int} {Q : VK} {E : XK} (O : Own B Lw H) (i : Nat) (hi : Lw[i]? = some (row, o)) (ho : RowOk sc o) (hs : SqL K B sc (ns.map V.int))
    (h : ∀ (n : Int) (o' : HO) (H' : Hp), -(10 ^ 40) ≤ n → n ≤ 10 ^ 40 → RowOk sc o' → Own B (Lw.set i (row, o')) H' → Q (.int n) H') : sp_law_number K ([.ref row] ++ []) H Q E :=
  ⟨row, sc, o, ns, rfl, O.get i hi, ho, O.seq hs, fun n o' H' h1 h2 ho' g1 g2 => h n o' H' h1 h2 ho' (O.but i hi g2 g1)⟩
theorem ok_law_number (T : Txt K mg Z) : FnOk P w K mg base CX0 2 Z.f_law_number Z.d_law_number p_law_number (sp_law_number K) := by
  refine T.F_law_number.ok sc_law_number (fun vs H Q E h => ?_) (fun cdv A outer s H vs Q E hr h => ?_)
  · obtain ⟨_, _, _, _, rfl, _⟩ := h; rfl
  · obtain ⟨row, sc, o, ns, rfl, hrow, hok, hs, h⟩ := h
    have hs := row_ne hrow hok hs
    have O := Own.refl1 hrow
    refine ⟨_, (pss_cons (ps_set (i := 1) sc_law_number.nd rfl (Or.inl rfl) (pe_ix (r := rIxL K) ix_list (pe_lst (pa_cons pe_int (pa_cons pe_int (pa_cons (pe_op op_pow pe_int pe_int) (pa_cons (pe_op op_pow pe_int pe_int) pa_nil))))) (pe_call (ok_law_taken T) (hr.mono (by decide)) rfl T.g_law_taken T.F_law_taken.kp T.b_law_taken .nil pass0 (pa_cons (pv 0) (pa_cons pe_int pa_nil))) (fun _ _ => rfl)))
    (pss_cons (ps_set (i := 2) sc_law_number.nd rfl (Or.inl rfl) (pe_ifExp (pt_cmpR op_gt (pe_call (ok_law_taken T) (hr.mono (by decide)) rfl T.g_law_taken T.F_law_taken.kp T.b_law_taken .nil pass0 (pa_cons (pv 0) (pa_cons pe_int pa_nil))) pe_int (nomark _)) (pe_call (ok_law_taken T) (hr.mono (by decide)) rfl T.g_law_taken T.F_law_taken.kp T.b_law_taken .nil pass0 (pa_cons (pv 0) (pa_cons (pe_op op_add (pv 1) pe_int) pa_nil))) (pv 1)))
    (pss_one (ps_ret (pe_ifExp (pt_cmpR op_gt (pe_call (ok_law_taken T) (hr.mono (by decide)) rfl T.g_law_taken T.F_law_taken.kp T.b_law_taken .nil pass0 (pa_cons (pv 0) (pa_cons pe_int pa_nil))) pe_int (nomark _)) (pv 2) (pe_un un_neg (pv 2))))))), ?_⟩
    walk_at "g"; walk_at "mkL"; intro p H1 hp O
    walk_at "g"
    refine use_law_taken O 1 rfl hok hs (by omega) (fun z o H2 hz0 hz1 hok O => ?_)
    walk_at "g"
    refine a_ixM (ms := [9, 200, 10 ^ 6, 10 ^ 40]) O 0 rfl hz0 hz1 (fun sz hsz => ?_)
    have hsz : sz = 9 ∨ sz = 200 ∨ sz = 10 ^ 6 ∨ sz = 10 ^ 40 := by simpa using hsz
    have O := O.tail
    walk_at "g"
    refine use_law_taken O 0 rfl hok hs (by omega) (fun y o H3 hy0 hy1 hok O => ?_)
    walk_at "g"
    refine a_it2 (fun c => ?_) (fun c => ?_)
    · walk_at "g"
      refine use_law_taken O 0 rfl hok hs (by omega) (fun n o H4 hn0 hn1 hok O => ?_)
      walk_at "g"
      refine use_law_taken O 0 rfl hok hs (by omega) (fun y2 o H5 hy20 hy21 hok O => ?_)
      walk_at "g"
      refine a_it2 (fun c => ?_) (fun c => ?_)
      · walk_at "g"
        exact h _ _ _ (by omega) (by omega) hok (Own.get O 0 rfl) (Own.toBut O)
      · walk_at "g"
        exact h _ _ _ (by omega) (by omega) hok (Own.get O 0 rfl) (Own.toBut O)
    · walk_at "g"
      refine use_law_taken O 0 rfl hok hs (by omega) (fun y2 o H5 hy20 hy21 hok O => ?_)
      walk_at "g"
      refine a_it2 (fun c => ?_) (fun c => ?_)
      · walk_at "g"
        exact h _ _ _ (by omega) (by omega) hok (Own.get O 0 rfl) (Own.toBut O)
      · walk_at "g"
        exact h _ _ _ (by omega) (by omega) hok (Own.get O 0 rfl) (Own.toBut O)

/-! ### law -/
-- @NEEDS law_taken law_trick law_behind law_number fitting
def sp_law (K : Frag) : Sp := fun vs H Q _ => ∃ (a : Addr) (ns : List Int), vs = [.ref a] ∧ SqL K H a (ns.map V.int) ∧ ns.length ≤ 63 ∧ ∀ H', Q (.bl true) H'
theorem goodT_snoc {B t : Int} {l : List (Int × Int)} {p : Int × Int} (h : goodT B l t = true) (e : p.1 / B + t * (p.1 % B) = p.2) : goodT B (l ++ [p]) t = true := by
  unfold goodT at h ⊢
  rw [List.all_append, h, Bool.true_and]
  simp [e]
theorem ok_law (T : Txt K mg Z) : FnOk P w K mg base CX0 4 Z.f_law Z.d_law p_law (sp_law K) := by
  refine T.F_law.ok sc_law (fun vs H Q E h => ?_) (fun cdv A outer s H vs Q E hr h => ?_)
  · obtain ⟨_, _, rfl, _⟩ := h; rfl
  · obtain ⟨a, ns, rfl, hS, hlen, h⟩ := h
    have O := Own.refl H
    refine ⟨_, (pss_cons (ps_set (i := 1) sc_law.nd rfl (Or.inl rfl) (pe_lst (pa_cons (pv 0) (pa_cons pe_int (pa_cons pe_int (pa_cons pe_int pa_nil))))))
    (pss_cons (ps_for PassesOwn.never rfl (pi_range1 rfl T.n_range (pa_cons pe_int pa_nil)) (pg_name (i := 2) sc_law.nd rfl (Or.inl rfl))
    (pss_cons (ps_par (i := 3) (j := 4) (by rfl) sc_law.nd rfl rfl (by decide) rfl rfl (pa_cons (pe_call (ok_law_trick T) (hr.mono (by decide)) rfl T.g_law_trick T.F_law_trick.kp T.b_law_trick .nil pass0 (pa_cons (pv 1) (pa_cons pe_bl pa_nil))) (pa_cons (pe_lst pa_nil) pa_nil)) (by rfl))
    (pss_cons (ps_for PassesOwn.never rfl (pi_range1 rfl T.n_range (pa_cons (pe_op op_add pe_int (pe_call (ok_law_taken T) (hr.mono (by decide)) rfl T.g_law_taken T.F_law_taken.kp T.b_law_taken .nil pass0 (pa_cons (pv 1) (pa_cons pe_int pa_nil)))) pa_nil)) (pg_name (i := 5) sc_law.nd rfl (Or.inl rfl))
    (pss_cons (ps_set (i := 6) sc_law.nd rfl (Or.inl rfl) (pe_call (ok_law_number T) (hr.mono (by decide)) rfl T.g_law_number T.F_law_number.kp T.b_law_number .nil pass0 (pa_cons (pv 1) pa_nil)))
    (pss_one (ps_if (pt_cmpR op_le (pe_callB call_absR (by rfl) T.n_abs boot_abs (pa_cons (pe_call (ok_law_behind T) (hr.mono (by decide)) rfl T.g_law_behind T.F_law_behind.kp T.b_law_behind .nil pass0 (pa_cons (pv 3) (pa_cons (pv 6) pa_nil))) pa_nil)) (pe_op op_pow pe_int pe_int) (nomark _)) (pss_one (ps_expr (pe_bm PySem.F.plainAttrs_list PySem.F.slot_list_append PySem.F.type_list_append mt_append (pv 4) (pa_cons (pe_tup (pa_cons (pv 6) (pa_cons (pe_call (ok_law_behind T) (hr.mono (by decide)) rfl T.g_law_behind T.F_law_behind.kp T.b_law_behind .nil pass0 (pa_cons (pv 3) (pa_cons (pv 6) pa_nil))) pa_nil))) pa_nil)))) pss_nil))))
    (pss_one (ps_if (pt_cmpR (r := rNeD K) (op_neD hr.units) (pv 4) (pe_lst pa_nil) (nomark _)) (pss_cons (ps_set (i := 7) sc_law.nd rfl (Or.inl rfl) (pe_call (ok_fitting T) (hr.mono (by decide)) rfl T.g_fitting T.F_fitting.kp T.b_fitting .nil pass0 (pa_cons (pv 4) pa_nil)))
    (pss_cons (ps_if (PW.pt (pw_or (pt_cmpR (r := rNotInD K) (op_notInD (u65 hr)) (pe_callTy (r := rTupOf K) call_tupR (by rfl) T.n_tuple boot_tuple (pa_cons (pv 3) pa_nil)) (pv 7) (by rfl)) (pw_or1 (pt_cmpR (r := rNeD K) (op_neD hr.units) (pv 7) (pe_sortSet rfl hr.units (by rfl) T.n_sorted (by rfl) T.n_set (pv 7)) (nomark _))))) (pss_one (ps_ret pe_bl)) pss_nil)
    (pss_one (ps_for PassesOwn.never rfl (pi_list (pv 7)) (pg_name (i := 8) sc_law.nd rfl (Or.inr rfl))
    (pss_one (ps_if (pt_not (pt_val (pe_callB (r := rAll K) (cr_all rfl) (by rfl) T.n_all boot_all (pa_cons (pe_lc (own := [("_law_n", 6), ("_law_later", 9)]) (tt := tYes) rfl sc_law.nd (pi_list (pv 4)) (blkOk_by (N := N_law) (sc := defScope s_law) (by decide +kernel)) (fun _ _ _ _ _ => (pg_tupK (K := K) (n := 2) rfl (pgs_cons (pg_name (i := 6) sc_law.nd rfl (Or.inl rfl)) (pgs_cons (pg_name (i := 9) sc_law.nd rfl (Or.inl rfl)) pgs_nil)))) (fun _ _ _ _ _ => pts_nil) (fun _ _ _ _ _ => (pe_cmpR op_eq (pe_call (ok_law_behind T) (hr.mono (by decide)) rfl T.g_law_behind T.F_law_behind.kp T.b_law_behind .nil pass0 (pa_cons (pe_callTy (r := rLstOf K) call_lstR (by rfl) T.n_list boot_list (pa_cons (pv 8) pa_nil)) (pa_cons (pv 6) pa_nil))) (pv 9) (nomark _)))) pa_nil)))) (pss_one (ps_ret pe_bl)) pss_nil)))))) pss_nil)))))
    (pss_one (ps_ret pe_bl)))), ?_⟩
    walk_at "g"; walk_at "mkL"; intro row H1 hrow O
    have ok : RowOk a (.lst [.ref a, .int 0, .int 135, .int 0]) := ⟨0, 135, 0, rfl, by decide, by decide, by decide, by decide⟩
    walk_at "g"
    refine for_range (fun i σ H' => ∃ (B : Hp) (o : HO) (v2 v3 v4 v5 v6 v7 v8 v9 : Option V), σ = [some (.ref a), some (.ref row), v2, v3, v4, v5, v6, v7, v8, v9] ∧
      Same H B ∧ RowOk a o ∧ Own B [(row, o)] H') ⟨H, _, _, _, _, _, _, _, _, _, rfl, Same.refl H, ok, O⟩ ?_ ?_
    · clear O ok
      rintro i σ H' hi ⟨B, o, v2, v3, v4, v5, v6, v7, v8, v9, rfl, sB, ok, O⟩
      walk_at "g"
      refine use_law_trick O 0 rfl ok (sB.seq hS) (fun b k t p o H2 tk _ ok O => ?_)
      simp only [List.set] at O
      walk_at "g"; walk_at "mkL"; intro pr H3 hpr O
      walk_at "g"
      refine use_law_taken O 2 rfl ok (sB.seq hS) (by omega) (fun cnt o H4 hc0 hc1 ok O => ?_)
      simp only [List.set] at O
      have tk2 := tk
      obtain ⟨⟨hb1, hb2⟩, ⟨hk1, hk2⟩, ht1, ht2⟩ := tk2
      walk_at "g"
      refine for_range (fun i σ H' => ∃ (B : Hp) (o : HO) (xs : List V) (l : List (Int × Int)) (v2 v5 v6 v7 v8 v9 : Option V), σ = [some (.ref a), some (.ref row), v2, some (.ref p), some (.ref pr), v5, v6, v7, v8, v9] ∧
        Same H B ∧ RowOk a o ∧ Own B [(pr, .lst xs), (p, toldL b k t), (row, o)] H' ∧ RowsT B xs (prs l) ∧ l.length ≤ i ∧ PairsOk l ∧ goodT (b ^ k.toNat) l t = true) ⟨B, o, [], [], _, _, _, _, _, _, rfl, sB, ok, O, RowsT.nil B, Nat.le_refl 0, fun _ h => by simp at h, rfl⟩ ?_ ?_
      · clear O ok sB
        rintro i σ H' hi ⟨B, o, xs, l, v2, v5, v6, v7, v8, v9, rfl, sB, ok, O, hr, hl, hp, hg⟩
        have i10 : i < 10 := by omega
        have xl : xs.length = l.length := by have := hr.1; rw [List.length_map] at this; exact this
        walk_at "g"
        refine use_law_number O 2 rfl ok (sB.seq hS) (fun n o H5 hn0 hn1 ok O => ?_)
        simp only [List.set] at O
        walk_at "g"
        refine ⟨p, b, k, t, n, rfl, Own.sq O 1 rfl, tk, ?_⟩
        walk_at "g"
        generalize hu : n / b ^ k.toNat + t * (n % b ^ k.toNat) = u
        refine a_it2 (fun c => ?_) (fun c => ?_)
        · walk_at "g"
          refine ⟨.inl ⟨rfl, _, Own.sq O 0 rfl⟩, ?_⟩
          walk_at "g"
          refine ⟨p, b, k, t, n, rfl, Own.sq O 1 rfl, tk, ?_⟩
          rw [hu]
          walk_at "g"; walk_at "mkT"; intro q2 H10 hq2 O
          walk_at "g"
          refine a_app O 1 rfl (by omega) (fun H11 O => ?_)
          simp only [List.set] at O
          walk_at "g"
          have O2 := O.fix
          have s2 := O.fixS
          refine ⟨_, o, xs ++ [.ref q2], l ++ [(n, u)], _, _, _, _, _, _, rfl, sB.trans s2, ok, O2, ?_, by rw [List.length_append]; exact Nat.succ_le_succ hl, fun x hx => ?_, goodT_snoc hg hu⟩
          · rw [prs, List.map_append]
            exact (hr.same s2).snoc (ns := [n, u]) upd_same
          · rcases List.mem_append.mp hx with hx | hx
            · exact hp x hx
            · rw [List.mem_singleton.mp hx]
              exact ⟨⟨hn0, hn1⟩, by omega, by omega⟩
        · walk_at "g"
          exact ⟨B, o, xs, l, _, _, _, _, _, _, rfl, sB, ok, O, hr, Nat.le_succ_of_le hl, hp, hg⟩
      · clear O ok sB
        rintro σ H' ⟨B, o, xs, l, v2, v5, v6, v7, v8, v9, rfl, sB, ok, O, hr, hl, hp, hg⟩
        have l10 : l.length ≤ 10 := by omega
        walk_at "g"; walk_at "mkL"; intro em H5 hem O
        refine a_neRows0 (hr.same O.st) (Own.sq O 1 rfl) (Own.sq O 0 rfl) ?_
        replace O := O.tail
        refine ⟨_, rfl, ?_⟩
        refine a_niB (fun e => ?_) (fun e => ?_)
        · walk_at "g"
          exact ⟨B, o, _, _, _, _, _, _, _, _, rfl, sB, ok, O.less (.cons _ (.cons _ (.cons_cons _ .slnil)))⟩
        · have l1 : 1 ≤ l.length := by
            cases l with
            | nil => cases e
            | cons x l => rw [List.length_cons]; omega
          walk_at "g"
          refine ⟨pr, xs, l, rfl, .inl (O.get 0 rfl), hr.same O.st, ⟨l1, l10⟩, hp, fun q zs H2 s2 hq hq2 hz => ?_⟩
          replace O := O.got s2 hq hq2
          obtain ⟨ks, rfl, hk2, hks⟩ := rows_ks hz
          have tin : [b, k, t] ∈ fitAll l 15 := fitAll_is.mpr ⟨b, k, t, rfl, by omega, by omega, by omega, hg⟩
          have kl : ks.length = (fitAll l 15).length := by rw [← hk2, List.length_map]
          have fl := fitAll_len l 15
          have hq0 : H2 q = some (.lst (refs ks)) := O.get 0 rfl
          have hpr0 : H2 pr = some (.lst xs) := O.get 1 rfl
          have hp0 : H2 p = some (toldL b k t) := O.get 2 rfl
          have hr2 : RowsT H2 xs (prs l) := hr.same O.st
          have O0 := O
          replace O := Own.refl H2
          have nd : (ks.map (·.2)).Nodup := by rw [hk2]; exact fitAll_nodup l 15
          have xl : xs.length = l.length := by have := hr.1; rw [List.length_map] at this; exact this
          walk_at "g"
          refine a_tupL O (SqL.of hp0) (fun tp H3 htp O => ?_)
          walk_at "g"
          refine a_ninRows (x := [b, k, t]) (Own.tq O 0 rfl) (hz.same O.st) (O.seq (SqL.of hq0)) ?_
          rw [decide_eq_true tin]
          walk_at "g"
          refine ⟨_, rfl, q, ks, rfl, O.seq (SqL.of hq0), fun r hr => ⟨SqT.of (O.st _ _ (hks r hr)), fun z => ?_⟩, by omega, nd, fun s4 ms pm up hs => ?_⟩
          · have m : r.2 ∈ fitAll l 15 := by rw [← hk2]; exact List.mem_map.mpr ⟨r, hr, rfl⟩
            obtain ⟨_, _, _, e, _⟩ := fitAll_is.mp m
            rw [z] at e
            cases e
          · replace O := O.new (o := .lst (refs ms)) hs
            have em : ms.map (·.2) = fitAll l 15 := by
              refine sorted_one up (fitAll_le l 15) ((pm.map (·.2)).nodup_iff.mpr nd) (fitAll_nodup l 15) fun x => ?_
              rw [← hk2]
              exact (pm.map (·.2)).mem_iff
            have hz4 : RowsT H2 (refs ms) (fitAll l 15) := by rw [← em]; exact ks_rows fun r hr => hks r (pm.mem_iff.mp hr)
            refine a_neRows (hz.same O.st) (O.seq (SqL.of hq0)) (hz4.same O.st) (Own.sq O 0 rfl) ?_
            walk_at "g"
            have SH := O.st
            clear O
            refine ⟨q, rfl, ⟨_, SqL.of (SH _ _ hq0)⟩, ?_⟩
            refine for_list (xs := refs ks) (fun j σ H' => ∃ (v2 v5 v6 v8 v9 : Option V), σ = [some (.ref a), some (.ref row), v2, some (.ref p), some (.ref pr), v5, v6, some (.ref q), v8, v9] ∧ Same H2 H') ⟨_, _, _, _, _, rfl, SH⟩ (fun j σ H' _ ⟨_, _, _, _, _, _, SH⟩ => SqL.of (SH _ _ hq0)) ?_ ?_
            · clear SH
              rintro j y σ H' hj ⟨v2, v5, v6, v8, v9, rfl, SH⟩
              obtain ⟨jl, r, rfl, hr⟩ := hz.at_ hj
              obtain ⟨b', k', t', e3, h1, h2, h3, hg'⟩ := fitAll_is.mp (List.getElem_mem jl)
              rw [e3] at hr
              have tk' : TrickOk b' k' t' := ⟨by omega, by omega, by omega⟩
              have O := (Own.refl H2).same SH
              walk_at "g"
              refine ⟨pr, rfl, ⟨_, O.seq (SqL.of hpr0)⟩, fun D hD => ?_⟩
              replace O := Own.new (o := .lst []) O hD
              refine lc_list (xs := xs) (fun n H' => ∃ (bs : List Bool) (Lw : List (Addr × HO)), Own H2 ((D, .lst (bs.map V.bl)) :: Lw) H' ∧ bs.length ≤ n ∧ bs.all id = true) ⟨[], [], O, Nat.le_refl 0, rfl⟩ (fun n H' _ ⟨bs, Lw, O, _⟩ => O.seq (SqL.of hpr0)) ?_ ?_
              · clear O SH
                rintro n x H' hx ⟨bs, Lw, O, bl, ba⟩
                obtain ⟨il, z, rfl, hz2⟩ := prs_at hr2 hx
                refine a_gtup (SqT.of (O.st _ _ hz2)) rfl ?_
                walk_at "g"
                refine ⟨rfl, ?_⟩
                walk_at "g"
                refine a_lstO O (.inr (SqT.of (O.st _ _ hr))) (fun tl H7 htl O => ?_)
                walk_at "g"
                refine ⟨tl, b', k', t', _, rfl, Own.sq O 0 rfl, tk', ?_⟩
                walk_at "g"
                refine ⟨_, O.get 1 rfl, Nat.lt_of_lt_of_le (show _ < 1000 by rw [List.length_map]; omega) (by decide), ?_⟩
                refine ⟨bs ++ [decide (l[n].1 / b' ^ k'.toNat + t' * (l[n].1 % b' ^ k'.toNat) = l[n].2)], (tl, .lst [.int b', .int k', .int t']) :: Lw, ?_, by rw [List.length_append, List.length_singleton]; omega, ?_⟩
                · rw [List.map_append]
                  exact (Own.put O 1 rfl).perm (List.perm_append_comm (l₁ := [(D, _)]) (l₂ := [(tl, _)]) |>.append_right Lw)
                · have g := List.all_eq_true.mp hg' l[n] (List.getElem_mem il)
                  rw [List.all_append, ba, Bool.true_and]
                  simpa using g
              · clear O SH
                rintro H' ⟨bs, Lw, O, bl, ba⟩
                replace O := O.less (Lw' := [(D, .lst (bs.map V.bl))]) (.cons_cons _ (List.nil_sublist _))
                walk_at "g"
                refine ⟨D, bs, rfl, Own.sq O 0 rfl, ?_⟩
                rw [ba]
                walk_at "g"
                exact ⟨_, _, _, _, _, rfl, O.st⟩
            · clear SH
              rintro σ H' ⟨v2, v5, v6, v8, v9, rfl, SH⟩
              walk_at "g"
              have O := O0.same SH
              exact ⟨B, o, _, _, _, _, _, _, _, _, rfl, sB, ok, O.less (.cons _ (.cons _ (.cons _ (.cons_cons _ .slnil))))⟩
    · clear O ok
      rintro σ H' ⟨B, o, v2, v3, v4, v5, v6, v7, v8, v9, rfl, sB, ok, O⟩
      walk_at "g"
      exact h _

end
theorem bd_is_from {K : Frag} {f : Addr} {d : FuncData} (F : Fun K "is_from" "is_from" s_is_from f d) : Binds K d p_is_from [] := F.binds (ps := p_is_from) fun _ _ _ _ _ _ us hl => match us, hl with | [_, _, _], _ => rfl
theorem bd_power {K : Frag} {f : Addr} {d : FuncData} (F : Fun K "power" "power" s_power f d) : Binds K d p_power [] := F.binds (ps := p_power) fun _ _ _ _ _ _ us hl => match us, hl with | [_, _], _ => rfl
theorem bd_need_pairs {K : Frag} {f : Addr} {d : FuncData} (F : Fun K "need_pairs" "need_pairs" s_need_pairs f d) : Binds K d p_need_pairs [] := F.binds (ps := p_need_pairs) fun _ _ _ _ _ _ us hl => match us, hl with | [_], _ => rfl
theorem bd_factors_of {K : Frag} {f : Addr} {d : FuncData} (F : Fun K "factors_of" "factors_of" s_factors_of f d) : Binds K d p_factors_of [] := F.binds (ps := p_factors_of) fun _ _ _ _ _ _ us hl => match us, hl with | [_, _], _ => rfl
theorem bd_fitting {K : Frag} {f : Addr} {d : FuncData} (F : Fun K "fitting" "fitting" s_fitting f d) : Binds K d p_fitting [] := F.binds (ps := p_fitting) fun _ _ _ _ _ _ us hl => match us, hl with | [_], _ => rfl
theorem bd_law_taken {K : Frag} {f : Addr} {d : FuncData} (F : Fun K "_law_taken" "_law_taken" s_law_taken f d) : Binds K d p_law_taken [] := F.binds (ps := p_law_taken) fun _ _ _ _ _ _ us hl => match us, hl with | [_, _], _ => rfl
theorem bd_law_power {K : Frag} {f : Addr} {d : FuncData} (F : Fun K "_law_power" "_law_power" s_law_power f d) : Binds K d p_law_power [] := F.binds (ps := p_law_power) fun _ _ _ _ _ _ us hl => match us, hl with | [_, _], _ => rfl
theorem bd_law_trick {K : Frag} {f : Addr} {d : FuncData} (F : Fun K "_law_trick" "_law_trick" s_law_trick f d) : Binds K d p_law_trick [] := F.binds (ps := p_law_trick) fun _ _ _ _ _ _ us hl => match us, hl with | [_, _], _ => rfl
theorem bd_law_behind {K : Frag} {f : Addr} {d : FuncData} (F : Fun K "_law_behind" "_law_behind" s_law_behind f d) : Binds K d p_law_behind [] := F.binds (ps := p_law_behind) fun _ _ _ _ _ _ us hl => match us, hl with | [_, _], _ => rfl
theorem bd_law_number {K : Frag} {f : Addr} {d : FuncData} (F : Fun K "_law_number" "_law_number" s_law_number f d) : Binds K d p_law_number [] := F.binds (ps := p_law_number) fun _ _ _ _ _ _ us hl => match us, hl with | [_], _ => rfl
theorem bd_law {K : Frag} {f : Addr} {d : FuncData} (F : Fun K "law" "law" s_law f d) : Binds K d p_law [] := F.binds (ps := p_law) fun _ _ _ _ _ _ us hl => match us, hl with | [_], _ => rfl
theorem all_mk {l : PySem.W.OpenLaw} {w : World} {K : Frag} {h : Heap} {mg : Str → Option Value} {fa f0 f1 f2 f3 f4 f5 f6 f7 f8 f9 f10 : Addr} (X : K.In h) (G : h.Ns mainGlobals mg) (hfa : mg "law" = some (.ref fa))
    {d0 : FuncData}
    {d1 : FuncData}
    {d2 : FuncData}
    {d3 : FuncData}
    {d4 : FuncData}
    {d5 : FuncData}
    {d6 : FuncData}
    {d7 : FuncData}
    {d8 : FuncData}
    {d9 : FuncData}
    {od10 an10 : Option Addr} {sl10 : Array (Option Value)} {oc10 kV10 dc10 pm10 ct10 cd10 : Value}
    {tk_LEAST_BASE : Tok}
    {tk_MOST_BASE : Tok}
    {tk_MOST_NUMBER : Tok}
    {tk_MOST_TAKE : Tok}
    {tk_MOST_TIMES : Tok}
    {tk_MOST_PAIRS : Tok}
    (a0 : PySem.W.nsIn K mainGlobals "is_from" = some (some (.ref f0)))
    (F0 : Fun K "is_from" "is_from" s_is_from f0 d0)
    (a1 : PySem.W.nsIn K mainGlobals "power" = some (some (.ref f1)))
    (F1 : Fun K "power" "power" s_power f1 d1)
    (a2 : PySem.W.nsIn K mainGlobals "need_pairs" = some (some (.ref f2)))
    (F2 : Fun K "need_pairs" "need_pairs" s_need_pairs f2 d2)
    (a3 : PySem.W.nsIn K mainGlobals "factors_of" = some (some (.ref f3)))
    (F3 : Fun K "factors_of" "factors_of" s_factors_of f3 d3)
    (a4 : PySem.W.nsIn K mainGlobals "fitting" = some (some (.ref f4)))
    (F4 : Fun K "fitting" "fitting" s_fitting f4 d4)
    (a5 : PySem.W.nsIn K mainGlobals "_law_taken" = some (some (.ref f5)))
    (F5 : Fun K "_law_taken" "_law_taken" s_law_taken f5 d5)
    (a6 : PySem.W.nsIn K mainGlobals "_law_power" = some (some (.ref f6)))
    (F6 : Fun K "_law_power" "_law_power" s_law_power f6 d6)
    (a7 : PySem.W.nsIn K mainGlobals "_law_trick" = some (some (.ref f7)))
    (F7 : Fun K "_law_trick" "_law_trick" s_law_trick f7 d7)
    (a8 : PySem.W.nsIn K mainGlobals "_law_behind" = some (some (.ref f8)))
    (F8 : Fun K "_law_behind" "_law_behind" s_law_behind f8 d8)
    (a9 : PySem.W.nsIn K mainGlobals "_law_number" = some (some (.ref f9)))
    (F9 : Fun K "_law_number" "_law_number" s_law_number f9 d9)
    (a10 : PySem.W.nsIn K mainGlobals "law" = some (some (.ref f10)))
    (l10 : K.lookup f10 = some ⟨oc10, od10, .func (PySem.W.fnOf "law" "law" (defArgs s_law) (defBody s_law) (defScope s_law) .none kV10 dc10 pm10 an10 cd10 ct10), sl10⟩)
    (c10 : PySem.W.codeIn K cd10 "law" = true)
    (k10 : PySem.W.keepIn K (.ref f10) = true)
    (v_LEAST_BASE : PySem.W.nsIn K mainGlobals "LEAST_BASE" = some (some (.int (2) tk_LEAST_BASE)))
    (v_MOST_BASE : PySem.W.nsIn K mainGlobals "MOST_BASE" = some (some (.int (16) tk_MOST_BASE)))
    (v_MOST_NUMBER : PySem.W.nsIn K mainGlobals "MOST_NUMBER" = some (some (.int (10000000000000000000000000000000000000000) tk_MOST_NUMBER)))
    (v_MOST_TAKE : PySem.W.nsIn K mainGlobals "MOST_TAKE" = some (some (.int (2) tk_MOST_TAKE)))
    (v_MOST_TIMES : PySem.W.nsIn K mainGlobals "MOST_TIMES" = some (some (.int (100) tk_MOST_TIMES)))
    (v_MOST_PAIRS : PySem.W.nsIn K mainGlobals "MOST_PAIRS" = some (some (.int (10) tk_MOST_PAIRS)))
    (z_isinstance : PySem.W.nsIn K mainGlobals "isinstance" = some none)
    (z_int : PySem.W.nsIn K mainGlobals "int" = some none)
    (z_bool : PySem.W.nsIn K mainGlobals "bool" = some none)
    (z_range : PySem.W.nsIn K mainGlobals "range" = some none)
    (z_enumerate : PySem.W.nsIn K mainGlobals "enumerate" = some none)
    (z_all : PySem.W.nsIn K mainGlobals "all" = some none)
    (z_list : PySem.W.nsIn K mainGlobals "list" = some none)
    (z_tuple : PySem.W.nsIn K mainGlobals "tuple" = some none)
    (z_len : PySem.W.nsIn K mainGlobals "len" = some none)
    (z_abs : PySem.W.nsIn K mainGlobals "abs" = some none)
    (z_sorted : PySem.W.nsIn K mainGlobals "sorted" = some none)
    (z_set : PySem.W.nsIn K mainGlobals "set" = some none)
    : ∃ fd : FuncData, (∀ (s : Shared) (v : Value), BindsTo s fd ⟨[v], []⟩ [("_law_script", v)]) ∧ ∀ base : Heap, K.In base → base.Ns mainGlobals mg → FnOk l.prog w K mg base CX0 4 fa fd ["_law_script"] (sp_law K) := by
  have e := hfa.symm.trans (PySem.W.mg_of X G a10)
  cases e
  have F10 := fun_mk (st := s_law) l10 c10 k10
  have T : Txt K mg ⟨f0, _, f1, _, f2, _, f3, _, f4, _, f5, _, f6, _, f7, _, f8, _, f9, _, fa, _⟩ :=
    { F_is_from := F0,
      b_is_from := bd_is_from F0,
      g_is_from := PySem.W.mg_of X G a0,
      F_power := F1,
      b_power := bd_power F1,
      g_power := PySem.W.mg_of X G a1,
      F_need_pairs := F2,
      b_need_pairs := bd_need_pairs F2,
      g_need_pairs := PySem.W.mg_of X G a2,
      F_factors_of := F3,
      b_factors_of := bd_factors_of F3,
      g_factors_of := PySem.W.mg_of X G a3,
      F_fitting := F4,
      b_fitting := bd_fitting F4,
      g_fitting := PySem.W.mg_of X G a4,
      F_law_taken := F5,
      b_law_taken := bd_law_taken F5,
      g_law_taken := PySem.W.mg_of X G a5,
      F_law_power := F6,
      b_law_power := bd_law_power F6,
      g_law_power := PySem.W.mg_of X G a6,
      F_law_trick := F7,
      b_law_trick := bd_law_trick F7,
      g_law_trick := PySem.W.mg_of X G a7,
      F_law_behind := F8,
      b_law_behind := bd_law_behind F8,
      g_law_behind := PySem.W.mg_of X G a8,
      F_law_number := F9,
      b_law_number := bd_law_number F9,
      g_law_number := PySem.W.mg_of X G a9,
      F_law := F10,
      b_law := bd_law F10,
      g_law := PySem.W.mg_of X G a10,
      v_LEAST_BASE := ⟨_, PySem.W.mg_of X G v_LEAST_BASE⟩,
      v_MOST_BASE := ⟨_, PySem.W.mg_of X G v_MOST_BASE⟩,
      v_MOST_NUMBER := ⟨_, PySem.W.mg_of X G v_MOST_NUMBER⟩,
      v_MOST_TAKE := ⟨_, PySem.W.mg_of X G v_MOST_TAKE⟩,
      v_MOST_TIMES := ⟨_, PySem.W.mg_of X G v_MOST_TIMES⟩,
      v_MOST_PAIRS := ⟨_, PySem.W.mg_of X G v_MOST_PAIRS⟩,
      n_isinstance := PySem.W.mg_none_of X G z_isinstance,
      n_int := PySem.W.mg_none_of X G z_int,
      n_bool := PySem.W.mg_none_of X G z_bool,
      n_range := PySem.W.mg_none_of X G z_range,
      n_enumerate := PySem.W.mg_none_of X G z_enumerate,
      n_all := PySem.W.mg_none_of X G z_all,
      n_list := PySem.W.mg_none_of X G z_list,
      n_tuple := PySem.W.mg_none_of X G z_tuple,
      n_len := PySem.W.mg_none_of X G z_len,
      n_abs := PySem.W.mg_none_of X G z_abs,
      n_sorted := PySem.W.mg_none_of X G z_sorted,
      n_set := PySem.W.mg_none_of X G z_set }
  exact ⟨_, fun s v => .of_eq rfl, fun base _ _ => ok_law T⟩
theorem walk {l : PySem.W.OpenLaw} {q : Program} {loose : List Str} {XP : (Str → Option Value) → Heap → Prop} {YP : World → Heap → Prop} {d : DefRec} {K : Params → Frag} (hn : l.most = some 63) (hdf : d.params.defaults = [])
    (hY : ∀ (w : World) (h : Heap), YP w h → (K w.params).In h)
    (F : ∀ (w : World) (mg : Str → Option Value) (fa : Addr) (h : Heap), (K w.params).In h → h.Ns mainGlobals mg → mg d.name = some (.ref fa) →
      ∃ fd : FuncData, (∀ (s : Shared) (u : Value), BindsTo s fd ⟨[u], []⟩ [("_law_script", u)]) ∧ ∀ base : Heap, (K w.params).In base → base.Ns mainGlobals mg → FnOk l.prog w (K w.params) mg base CX0 4 fa fd ["_law_script"] (sp_law (K w.params))) :
    PySem.W.WalkO q loose XP YP l.row.toRowW d [] (fun f vs => PySem.call f vs) :=
  L2.walk_of (n := 63) (k := 4) (x := "_law_script") (CX := fun _ => CX0) (sp := fun w => sp_law (K w.params)) hn (by decide) hdf ⟨rfl, by decide, by decide⟩ hY F (fun _ _ a ns hl _ hS => ⟨a, ns, rfl, hS, hl, fun _ => rfl⟩) fun _ _ _ _ _ z => z
end Toy

open PySem PySem.W PyProof.Rows
set_option maxRecDepth 100000 in
set_option maxHeartbeats 0 in
theorem PySem.Challenge.cw_resttricks_k35_fitting_great_holds : PySem.Challenge.rw_resttricks_k35_fitting_great.Holds := by
  w_on; o_law; k_head; (case hw => w_witness2)
  k_fill
  refine Toy.walk (l := PySem.Challenge.rw_resttricks_k35_fitting_great) rfl rfl (fun w h Y => PySem.W.kIn_of Y) ?F
  case F =>
    intro w mg fa h KX G hmg
    refine' Toy.all_mk KX G hmg ?a0 ?F0 ?a1 ?F1 ?a2 ?F2 ?a3 ?F3 ?a4 ?F4 ?a5 ?F5 ?a6 ?F6 ?a7 ?F7 ?a8 ?F8 ?a9 ?F9 ?a10 ?l10 ?c10 ?k10 ?v_LEAST_BASE ?v_MOST_BASE ?v_MOST_NUMBER ?v_MOST_TAKE ?v_MOST_TIMES ?v_MOST_PAIRS ?z_isinstance ?z_int ?z_bool ?z_range ?z_enumerate ?z_all ?z_list ?z_tuple ?z_len ?z_abs ?z_sorted ?z_set
    (case a0 => k_is)
    (case F0 => (refine' L2.fun_mk ?x ?y ?z; (case x => k_is); (case y => k_is); (case z => k_is)))
    (case a1 => k_is)
    (case F1 => (refine' L2.fun_mk ?x ?y ?z; (case x => k_is); (case y => k_is); (case z => k_is)))
    (case a2 => k_is)
    (case F2 => (refine' L2.fun_mk ?x ?y ?z; (case x => k_is); (case y => k_is); (case z => k_is)))
    (case a3 => k_is)
    (case F3 => (refine' L2.fun_mk ?x ?y ?z; (case x => k_is); (case y => k_is); (case z => k_is)))
    (case a4 => k_is)
    (case F4 => (refine' L2.fun_mk ?x ?y ?z; (case x => k_is); (case y => k_is); (case z => k_is)))
    (case a5 => k_is)
    (case F5 => (refine' L2.fun_mk ?x ?y ?z; (case x => k_is); (case y => k_is); (case z => k_is)))
    (case a6 => k_is)
    (case F6 => (refine' L2.fun_mk ?x ?y ?z; (case x => k_is); (case y => k_is); (case z => k_is)))
    (case a7 => k_is)
    (case F7 => (refine' L2.fun_mk ?x ?y ?z; (case x => k_is); (case y => k_is); (case z => k_is)))
    (case a8 => k_is)
    (case F8 => (refine' L2.fun_mk ?x ?y ?z; (case x => k_is); (case y => k_is); (case z => k_is)))
    (case a9 => k_is)
    (case F9 => (refine' L2.fun_mk ?x ?y ?z; (case x => k_is); (case y => k_is); (case z => k_is)))
    (case a10 => k_is)
    (case l10 => k_is)
    (case c10 => k_is)
    (case k10 => k_is)
    (case v_LEAST_BASE => k_is)
    (case v_MOST_BASE => k_is)
    (case v_MOST_NUMBER => k_is)
    (case v_MOST_TAKE => k_is)
    (case v_MOST_TIMES => k_is)
    (case v_MOST_PAIRS => k_is)
    (case z_isinstance => k_is)
    (case z_int => k_is)
    (case z_bool => k_is)
    (case z_range => k_is)
    (case z_enumerate => k_is)
    (case z_all => k_is)
    (case z_list => k_is)
    (case z_tuple => k_is)
    (case z_len => k_is)
    (case z_abs => k_is)
    (case z_sorted => k_is)
    (case z_set => k_is)
