import PyProof.Rows.All
import Wide.All
import OpenK.AllK
import Wide.FinOn
import HandS.ForMost
import HandS.IsInst
import HandS.Wide
import HandS.Steps
import HandS.Style
import HandS.TupAny
import HandS.Codes
import HandS.SortInts
import HandS.TryOnly
import HandS.TryMany
import HandS.ExcOwn
import HandS.ExcInit
import HandS.ExcField
import HandS.ExcIs
import HandS.WordsExc
import HandS.DeepEq
import HandS.Walk
import KE.GoesEnum
import PySem.Challenge.RW_resttricks_k42_errors_are_apart
set_option Elab.async false
set_option linter.all false
set_option maxRecDepth 100000
set_option maxHeartbeats 4000000
/-! ## the layer: what is owned, step by step -/
namespace R
open PySem PySem.Spec PyProof.Rows L2
open PySem.W (Frag)

def del1 (H : Hp) (a : Addr) : Hp := fun b => if b = a then none else H b
/-- B: what stays; Lw: what this frame may change, as it stands -/
structure Own (B : Hp) (Lw : List (Addr × HO)) (H : Hp) : Prop where
  st : ∀ a o, B a = some o → H a = some o
  ow : ∀ p ∈ Lw, H p.1 = some p.2
  no : ∀ p ∈ Lw, B p.1 = none
  nd : (Lw.map (·.1)).Nodup
theorem Own.refl (H : Hp) : Own H [] H := ⟨fun _ _ h => h, fun _ h => by simp at h, fun _ h => by simp at h, by simp⟩
theorem Own.refl1 {H : Hp} {a : Addr} {o : HO} (h : H a = some o) : Own (del1 H a) [(a, o)] H := by
  refine ⟨fun b u e => ?_, fun p hp => ?_, fun p hp => ?_, by simp⟩
  · unfold del1 at e
    split at e
    · cases e
    · exact e
  · have e : p = (a, o) := by simpa using hp
    rw [e]; exact h
  · have e : p = (a, o) := by simpa using hp
    rw [e]; unfold del1; rw [if_pos rfl]
section
variable {B H H' : Hp} {Lw : List (Addr × HO)} {a b p : Addr} {o u : HO} {K : Frag} {xs : List V}
theorem Own.get (O : Own B Lw H) (i : Nat) (h : Lw[i]? = some (a, o)) : H a = some o := O.ow (a, o) (List.mem_of_getElem? h)
theorem Own.gone (O : Own B Lw H) (i : Nat) (h : Lw[i]? = some (a, o)) : B a = none := O.no (a, o) (List.mem_of_getElem? h)
theorem Own.seq (O : Own B Lw H) (h : SqL K B a xs) : SqL K H a xs := by
  rcases h with (h | ⟨q, h⟩) | h
  · exact .inl (.inl (O.st _ _ h))
  · exact .inl (.inr ⟨q, O.st _ _ h⟩)
  · exact .inr h
theorem Own.tup (O : Own B Lw H) (h : SqT K B a xs) : SqT K H a xs := by
  rcases h with (h | ⟨q, h⟩) | h
  · exact .inl (.inl (O.st _ _ h))
  · exact .inl (.inr ⟨q, O.st _ _ h⟩)
  · exact .inr h
theorem Own.sq (O : Own B Lw H) (i : Nat) (h : Lw[i]? = some (a, .lst xs)) : SqL K H a xs := SqL.of (O.get i h)
theorem Own.tq (O : Own B Lw H) (i : Nat) (h : Lw[i]? = some (a, .tup xs)) : SqT K H a xs := SqT.of (O.get i h)
theorem Own.free (O : Own B Lw H) (h : H p = none) : B p = none := by
  cases q : B p with
  | none => rfl
  | some v => rw [O.st _ _ q] at h; cases h
theorem Own.out (O : Own B Lw H) (h : H p = none) : ∀ q ∈ Lw, q.1 ≠ p := fun q hq z => by
  have e := O.ow q hq
  rw [z, h] at e; cases e
/-- a new object -/
theorem Own.new (O : Own B Lw H) (h : H p = none) : Own B ((p, o) :: Lw) (upd H p o) := by
  refine ⟨fun c v e => ?_, fun q hq => ?_, fun q hq => ?_, ?_⟩
  · rw [upd_ne (ne_of_none (O.st _ _ e) h)]; exact O.st _ _ e
  · rcases List.mem_cons.mp hq with rfl | hq
    · exact upd_same
    · show upd H p o q.1 = _
      rw [upd_ne (O.out h q hq)]; exact O.ow q hq
  · rcases List.mem_cons.mp hq with rfl | hq
    · exact O.free h
    · exact O.no q hq
  · rw [List.map_cons, List.nodup_cons]
    refine ⟨fun z => ?_, O.nd⟩
    obtain ⟨q, hq, e⟩ := List.mem_map.mp z
    exact O.out h q hq e
theorem set_map1 : ∀ {Lw : List (Addr × HO)} {i : Nat} {a : Addr} {o o' : HO}, Lw[i]? = some (a, o) → (Lw.set i (a, o')).map (·.1) = Lw.map (·.1)
  | [], _, _, _, _, h => by simp at h
  | x :: r, 0, a, o, o', h => by
    have e : x = (a, o) := by simpa using h
    rw [e]; rfl
  | x :: r, i + 1, a, o, o', h => by
    have ih := set_map1 (Lw := r) (i := i) (o' := o') (by simpa using h)
    show x.1 :: (r.set i (a, o')).map (·.1) = x.1 :: r.map (·.1)
    rw [ih]
theorem mem_set1 : ∀ {Lw : List (Addr × HO)} {i : Nat} {a : Addr} {o o' : HO} {q : Addr × HO}, (Lw.map (·.1)).Nodup → Lw[i]? = some (a, o) → q ∈ Lw.set i (a, o') → q = (a, o') ∨ (q ∈ Lw ∧ q.1 ≠ a)
  | [], _, _, _, _, _, _, h, _ => by simp at h
  | x :: r, 0, a, o, o', q, nd, h, hq => by
    have e : x = (a, o) := by simpa using h
    subst e
    rw [List.map_cons, List.nodup_cons] at nd
    rcases List.mem_cons.mp hq with rfl | hq
    · exact .inl rfl
    · exact .inr ⟨List.mem_cons_of_mem _ hq, fun z => nd.1 (List.mem_map.mpr ⟨q, hq, z⟩)⟩
  | x :: r, i + 1, a, o, o', q, nd, h, hq => by
    rw [List.map_cons, List.nodup_cons] at nd
    have h' : r[i]? = some (a, o) := by simpa using h
    rcases List.mem_cons.mp (show q ∈ x :: r.set i (a, o') from hq) with rfl | hq
    · refine .inr ⟨List.mem_cons_self, fun z => nd.1 (List.mem_map.mpr ⟨(a, o), List.mem_of_getElem? h', z.symm⟩)⟩
    · rcases mem_set1 nd.2 h' hq with z | ⟨z1, z2⟩
      · exact .inl z
      · exact .inr ⟨List.mem_cons_of_mem _ z1, z2⟩
/-- what is owned is changed by someone who keeps all else -/
theorem Own.but (O : Own B Lw H) (i : Nat) (h : Lw[i]? = some (a, o)) (k : ∀ b v, b ≠ a → H b = some v → H' b = some v) (ha : H' a = some u) : Own B (Lw.set i (a, u)) H' := by
  have hB := O.gone i h
  refine ⟨fun c v e => k c v (fun z => ?_) (O.st _ _ e), fun q hq => ?_, fun q hq => ?_, ?_⟩
  · rw [z, hB] at e; cases e
  · rcases mem_set1 O.nd h hq with rfl | ⟨h1, h2⟩
    · exact ha
    · exact k _ _ h2 (O.ow q h1)
  · rcases mem_set1 O.nd h hq with rfl | ⟨h1, h2⟩
    · exact hB
    · exact O.no q h1
  · rw [set_map1 h]; exact O.nd
theorem Own.put (O : Own B Lw H) (i : Nat) (h : Lw[i]? = some (a, o)) : Own B (Lw.set i (a, u)) (upd H a u) :=
  O.but i h (fun b v hb e => by rw [upd_ne hb]; exact e) upd_same
/-- more stands now -/
theorem Own.same (O : Own B Lw H) (s : Same H H') : Own B Lw H' := ⟨fun c v e => s _ _ (O.st _ _ e), fun q hq => s _ _ (O.ow q hq), O.no, O.nd⟩
theorem Own.tail {x : Addr × HO} (O : Own B (x :: Lw) H) : Own B Lw H := ⟨O.st, fun q hq => O.ow q (List.mem_cons_of_mem _ hq), fun q hq => O.no q (List.mem_cons_of_mem _ hq), (List.nodup_cons.mp (by simpa using O.nd)).2⟩
theorem Own.tail2 {x y : Addr × HO} (O : Own B (y :: x :: Lw) H) : Own B (y :: Lw) H := by
  have hn := O.nd
  simp only [List.map_cons, List.nodup_cons, List.mem_cons, not_or] at hn
  refine ⟨O.st, fun q hq => O.ow q ?_, fun q hq => O.no q ?_, ?_⟩
  · rcases List.mem_cons.mp hq with rfl | hq
    · exact List.mem_cons_self
    · exact List.mem_cons_of_mem _ (List.mem_cons_of_mem _ hq)
  · rcases List.mem_cons.mp hq with rfl | hq
    · exact List.mem_cons_self
    · exact List.mem_cons_of_mem _ (List.mem_cons_of_mem _ hq)
  · simp only [List.map_cons, List.nodup_cons]
    exact ⟨hn.1.2, hn.2.2⟩
theorem Own.toSame (O : Own H Lw H') : Same H H' := O.st
/-- at the end: all but a is as it was -/
theorem Own.toBut (O : Own (del1 H a) Lw H') : ∀ b v, b ≠ a → H b = some v → H' b = some v := fun b v hb e => O.st b v (by unfold del1; rw [if_neg hb]; exact e)
theorem del1_seq {o : HO} (h : SqL K H b xs) (ha : H a = some o) (ho : ∀ ys, o ≠ .lst ys ∨ b ≠ a) (hf : ∀ q w, o ≠ .frz q w) (hb : b ≠ a) : SqL K (del1 H a) b xs := by
  rcases h with (h | ⟨q, h⟩) | h
  · exact .inl (.inl (by unfold del1; rw [if_neg hb]; exact h))
  · exact .inl (.inr ⟨q, by unfold del1; rw [if_neg hb]; exact h⟩)
  · exact .inr h
theorem del1_ne {H : Hp} {a b : Addr} (h : b ≠ a) : del1 H a b = H b := by unfold del1; rw [if_neg h]
end
end R
namespace R
open PySem L2
theorem Own.swap {B H : Hp} {Lw : List (Addr × HO)} {x y : Addr × HO} (O : Own B (x :: y :: Lw) H) : Own B (y :: x :: Lw) H := by
  refine ⟨O.st, fun q hq => O.ow q ?_, fun q hq => O.no q ?_, ?_⟩
  · simp only [List.mem_cons] at hq ⊢
    rcases hq with z | z | z
    · exact .inr (.inl z)
    · exact .inl z
    · exact .inr (.inr z)
  · simp only [List.mem_cons] at hq ⊢
    rcases hq with z | z | z
    · exact .inr (.inl z)
    · exact .inl z
    · exact .inr (.inr z)
  · have h := O.nd
    simp only [List.map_cons, List.nodup_cons, List.mem_cons, not_or] at h ⊢
    exact ⟨⟨fun z => h.1.1 z.symm, h.2.1⟩, h.1.2, h.2.2⟩
end R
namespace R
open PySem L2
open PySem.W (Frag)
section
variable {B H H' : Hp} {Lw : List (Addr × HO)} {p : Addr} {o : HO} {K : Frag}
/-- what is owned is let stand for good -/
theorem Own.fix (O : Own B ((p, o) :: Lw) H) : Own (upd B p o) Lw H := by
  have hn := O.nd
  simp only [List.map_cons, List.nodup_cons] at hn
  refine ⟨fun a v e => ?_, fun q hq => O.ow q (List.mem_cons_of_mem _ hq), fun q hq => ?_, hn.2⟩
  · by_cases h : a = p
    · subst h
      rw [upd_same] at e
      rw [← e]
      exact O.ow (a, o) List.mem_cons_self
    · rw [upd_ne h] at e; exact O.st _ _ e
  · have ne : q.1 ≠ p := fun z => hn.1 (List.mem_map.mpr ⟨q, hq, z⟩)
    rw [upd_ne ne]; exact O.no q (List.mem_cons_of_mem _ hq)
theorem Own.fixS (O : Own B ((p, o) :: Lw) H) : Same B (upd B p o) := fun b v e => by
  have h : B p = none := O.no (p, o) List.mem_cons_self
  rw [upd_ne (ne_of_none e h)]; exact e
theorem Own.sub {B' : Hp} (O : Own B' Lw H) (s : Same B B') : Own B Lw H := ⟨fun a v e => O.st _ _ (s _ _ e), O.ow, fun q hq => s.free (O.no q hq), O.nd⟩
end
mutual
theorem dp_same {K : Frag} {H H' : Hp} (s : Same H H') : ∀ (d : PyData) (v : V), Dp K H v d → Dp K H' v d
  | .none, _, h => by cases h; exact .non
  | .bool b, _, h => by cases h; exact .bl b
  | .int i, _, h => by cases h; exact .int i
  | .str x, _, h => by cases h; exact .str x
  | .list ds, _, h => by
    cases h with
    | lst h1 h2 => exact .lst (s.seq h1) (dpAll_same s ds _ h2)
  | .tuple ds, _, h => by
    cases h with
    | tup h1 h2 =>
      refine .tup ?_ (dpAll_same s ds _ h2)
      rcases h1 with (h | ⟨q, h⟩) | h
      · exact .inl (.inl (s _ _ h))
      · exact .inl (.inr ⟨q, s _ _ h⟩)
      · exact .inr h
  | .dict _, _, h => by cases h
theorem dpAll_same {K : Frag} {H H' : Hp} (s : Same H H') : ∀ (ds : List PyData) (vs : List V), DpAll K H vs ds → DpAll K H' vs ds
  | [], _, h => by cases h; exact .nil
  | d :: ds, _, h => by
    cases h with
    | cons h1 h2 => exact .cons (dp_same s d _ h1) (dpAll_same s ds _ h2)
end
end R
namespace R
open PySem L2
theorem Own.got {B H H' : Hp} {Lw : List (Addr × HO)} {p : Addr} {o : HO} (O : Own B Lw H) (s : Same H H') (h : H p = none) (h' : H' p = some o) : Own B ((p, o) :: Lw) H' := by
  have O1 := O.same s
  refine ⟨O1.st, fun q hq => ?_, fun q hq => ?_, ?_⟩
  · rcases List.mem_cons.mp hq with rfl | hq
    · exact h'
    · exact O1.ow q hq
  · rcases List.mem_cons.mp hq with rfl | hq
    · exact O.free h
    · exact O1.no q hq
  · rw [List.map_cons, List.nodup_cons]
    refine ⟨fun z => ?_, O.nd⟩
    obtain ⟨q, hq, e⟩ := List.mem_map.mp z
    exact O.out h q hq e
end R
namespace R
open PySem L2
theorem Own.butNew {B H H' : Hp} {Lw : List (Addr × HO)} {a p : Addr} {o u v : HO} (O : Own B Lw H) (i : Nat) (h : Lw[i]? = some (a, o)) (k : ∀ b v, b ≠ a → H b = some v → H' b = some v) (ha : H' a = some u) (hp : H p = none) (hv : H' p = some v) : Own B ((p, v) :: Lw.set i (a, u)) H' := by
  have O1 := O.but i h k ha
  refine ⟨O1.st, fun q hq => ?_, fun q hq => ?_, ?_⟩
  · rcases List.mem_cons.mp hq with rfl | hq
    · exact hv
    · exact O1.ow q hq
  · rcases List.mem_cons.mp hq with rfl | hq
    · exact O.free hp
    · exact O1.no q hq
  · rw [List.map_cons, List.nodup_cons]
    refine ⟨fun z => ?_, O1.nd⟩
    rw [set_map1 h] at z
    obtain ⟨q, hq, e⟩ := List.mem_map.mp z
    exact O.out hp q hq e
/-- what is new to the owner was new ahead of its changes -/
theorem Own.was {H H0 : Hp} {Lw : List (Addr × HO)} {a p : Addr} {o : HO} (O : Own (del1 H0 a) Lw H) (ha : H0 a = some o) (hl : ∃ (i : Nat) (u : HO), Lw[i]? = some (a, u)) (hp : H p = none) : H0 p = none := by
  cases e : H0 p with
  | none => rfl
  | some w =>
    by_cases z : p = a
    · obtain ⟨i, u, h⟩ := hl
      have q := O.get i h
      rw [← z, hp] at q
      cases q
    · have q := O.st p w (by unfold del1; rw [if_neg z]; exact e)
      rw [hp] at q
      cases q
end R
namespace R
open PySem L2
theorem Own.less {B H : Hp} {Lw Lw' : List (Addr × HO)} (O : Own B Lw H) (s : Lw'.Sublist Lw) : Own B Lw' H :=
  ⟨O.st, fun q hq => O.ow q (s.subset hq), fun q hq => O.no q (s.subset hq), O.nd.sublist (s.map _)⟩
theorem Own.drop {B H : Hp} {Lw : List (Addr × HO)} (O : Own B Lw H) (n : Nat) : Own B (Lw.drop n) H := O.less (List.drop_sublist n Lw)
end R

namespace R
open PySem PySem.Spec PyProof.Rows L2
open PySem.W (Frag)
/-! ### rules of our own -/
theorem op_mulX {X : Cx} : OpR X (binaryOp .Mult) (rI IntMulOk fun i j => .int (i * j)) := opI fun _ _ _ _ _ _ _ hc q => mul_int q hc
theorem mx_l {i j : Int} (h1 : -(2 ^ 64) < i) (h2 : i < 2 ^ 64) : IntMulOk i j := CMul.ok (.inl ⟨h1, h2⟩)
theorem mx_r {i j : Int} (h1 : -(2 ^ 64) < j) (h2 : j < 2 ^ 64) : IntMulOk i j := CMul.ok (.inr ⟨h1, h2⟩)
theorem pe_globI {X : Cx} {x : Str} {i : Int} {pos : Pos} (hg : Gl X x) (hm : ∃ t, X.mg x = some (.int i t)) (hd : (x == ("__debug__" : Str)) = false := by decide) : PE X (.Name x pos) (tC (.int i)) := by
  obtain ⟨t, h⟩ := hm
  exact pe_glob hg h ⟨t, rfl⟩ hd
/-- len, tuple(..), list(..) of a list or tuple -/
def rLen (K : Frag) : List V → Hp → VK → Prop := fun xs H Q => ∃ p ys, xs = [.ref p] ∧ (SqL K H p ys ∨ SqT K H p ys) ∧ Q (.int ys.length) H
theorem call_lenR {X : Cx} : CallR X (.builtin "len") (rLen X.K) := call_len_seq
def rAbs : List V → Hp → VK → Prop := fun xs H Q => ∃ i, xs = [.int i] ∧ Q (.int (if i < 0 then -i else i)) H
theorem call_absR {X : Cx} : CallR X (.builtin "abs") rAbs := call_abs
def rTupOf (K : Frag) : List V → Hp → VK → Prop := fun xs H Q => ∃ p ys, xs = [.ref p] ∧ ((SqL K H p ys ∧ ∀ l, H l = none → Q (.ref l) (upd H l (.tup ys))) ∨ (SqT K H p ys ∧ Q (.ref p) H))
theorem call_tupR {X : Cx} : CallR X (.type "tuple") (rTupOf X.K) := call_tuple_of
def rLstOf (K : Frag) : List V → Hp → VK → Prop := fun xs H Q => ∃ p ys, xs = [.ref p] ∧ (SqL K H p ys ∨ SqT K H p ys) ∧ ∀ l, H l = none → Q (.ref l) (upd H l (.lst ys))
theorem call_lstR {X : Cx} : CallR X (.type "list") (rLstOf X.K) := call_list_of
/-! ### the steps -/
/-- a new list, a new tuple -/
def NewL (xs : List V) (H : Hp) (Q : VK) : Prop := xs.length ≤ sizeLine ∧ ∀ p, H p = none → Q (.ref p) (upd H p (.lst xs))
def NewT (xs : List V) (H : Hp) (Q : VK) : Prop := xs.length ≤ sizeLine ∧ ∀ p, H p = none → Q (.ref p) (upd H p (.tup xs))
section
variable {t u : TS} {D : Ends} {σ : L2.St} {H : Hp} {te ta tb tc : TE} {g : TG} {c d : TT} {Q : VK} {v x y : V} {i : Nat} {r r' : R2} {QB : Bool → Hp → Prop} {QL : List V → Hp → Prop} {K : Frag} {tr : TA} {tl th : TO}
theorem a_seq (h : t { D with nx := u D } σ H) : tSeq t u D σ H := h
theorem a_next (h : D.nx σ H) : tNext D σ H := h
theorem a_asg (h : te σ H fun x H1 => g x σ H1 D.nx) : tAsg te g D σ H := h
theorem a_gname {Qs : L2.St → Hp → Prop} (h : Qs (σ.set i (some v)) H) : gName i v σ H Qs := h
theorem a_drop (h : te σ H fun _ H1 => D.nx σ H1) : tDrop te D σ H := h
theorem a_ret (h : te σ H D.rt) : tRet te D σ H := h
theorem a_retN (h : D.rt .non H) : tRetN D σ H := h
theorem a_if (h : c σ H fun b H1 => if b = true then t D σ H1 else u D σ H1) : tIfS c t u D σ H := h
theorem a_var (e : σ[i]? = some (some v)) (h : Q v H) : tVar i σ H Q := ⟨v, e, h⟩
theorem a_c (h : Q v H) : tC v σ H Q := h
theorem a_op (h : ta σ H fun x H1 => tb σ H1 fun y H2 => r x y H2 Q) : tOp r ta tb σ H Q := h
theorem a_un {f : V → Hp → VK → Prop} (h : ta σ H fun x H1 => f x H1 Q) : tUn f ta σ H Q := h
theorem a_neg {n : Int} (h : Q (.int (-n)) H) : rU (fun i => .int (-i)) (.int n) H Q := ⟨n, rfl, h⟩
theorem a_test (h : te σ H fun x H' => ∃ k, x = .bl k ∧ QB k H') : tTest te σ H QB := h
theorem a_tB (h : te σ H fun x H' => ∃ k, x = .bl k ∧ QB k H') : tB te σ H QB := h
theorem a_bk {b : Bool} (h : QB b H) : ∃ k, V.bl b = .bl k ∧ QB k H := ⟨b, rfl, h⟩
theorem a_and (h : c σ H fun b H1 => if b = true then d σ H1 QB else QB false H1) : tAnd c d σ H QB := h
theorem a_or (h : c σ H fun b H1 => if b = true then QB true H1 else d σ H1 QB) : tOr c d σ H QB := h
theorem a_not (h : c σ H fun b H1 => QB (!b) H1) : tNot c σ H QB := h
theorem a_andV (h : ta σ H fun x H1 => ∃ b, x = .bl b ∧ if b = true then tb σ H1 Q else Q (.bl false) H1) : tAndV ta tb σ H Q := h
theorem a_orV (h : ta σ H fun x H1 => ∃ b, x = .bl b ∧ if b = true then Q (.bl true) H1 else tb σ H1 Q) : tOrV ta tb σ H Q := h
theorem a_notV (h : ta σ H fun x H1 => ∃ b, x = .bl b ∧ Q (.bl (!b)) H1) : tNotV ta σ H Q := h
theorem a_bv {b : Bool} {A : Bool → Prop} (h : A b) : ∃ k, V.bl b = .bl k ∧ A k := ⟨b, rfl, h⟩
theorem a_ifE (h : c σ H fun b H1 => if b = true then ta σ H1 Q else tb σ H1 Q) : tIf c ta tb σ H Q := h
theorem a_nil (h : QL [] H) : tNil σ H QL := h
theorem a_cons (h : te σ H fun x H1 => tr σ H1 fun xs H2 => QL (x :: xs) H2) : tCons te tr σ H QL := h
theorem a_tup (h : tr σ H fun xs H1 => NewT xs H1 Q) : tTup tr σ H Q := h
theorem a_lst (h : tr σ H fun xs H1 => NewL xs H1 Q) : tLst tr σ H Q := h
theorem a_cb {f : List V → Hp → VK → Prop} (h : tr σ H fun vs H1 => f vs H1 Q) : tCB f tr σ H Q := h
theorem a_call {sp : Sp} {dvs : List V} {E : XK} (h : tr σ H fun vs H1 => sp (vs ++ dvs) H1 Q E) : tCall sp dvs E tr σ H Q := h
theorem a_chain (h : ta σ H fun x H1 => tb σ H1 fun y H2 => r x y H2 fun z H3 => ∃ k, z = .bl k ∧ (if k = true then tc σ H3 fun w' H4 => r' y w' H4 Q else Q (.bl false) H3)) : tChain r r' ta tb tc σ H Q := h
theorem a_sl {f : V → Option Int → Option Int → Hp → VK → Prop} (h : te σ H fun x H1 => tl σ H1 fun l H2 => th σ H2 fun u H3 => f x l u H3 Q) : tSl f te tl th σ H Q := h
theorem a_npart {Qo : Option Int → Hp → Prop} (h : Qo none H) : tNoPart σ H Qo := h
theorem a_part {Qo : Option Int → Hp → Prop} (h : te σ H fun x H1 => ∃ i, x = .int i ∧ Qo (some i) H1) : tPart te σ H Qo := h
theorem a_ik {n : Int} {A : Int → Prop} (h : A n) : ∃ i, V.int n = .int i ∧ A i := ⟨n, rfl, h⟩
theorem a_gsub {to ti : TE} {ts : TSet} {Qs : L2.St → Hp → Prop} (h : to σ H fun o H1 => ti σ H1 fun i H2 => ts o i v H2 fun H3 => Qs σ H3) : gSub to ti ts v σ H Qs := h
theorem a_bm {T : String} {f : V → List V → Hp → VK → Prop} {to : TE} (h : to σ H fun x H1 => tyV K T x H1 ∧ tr σ H1 fun xs H2 => f x xs H2 Q) : tBM K T f to tr σ H Q := h
theorem a_bm0 {T : String} {f : V → List V → Hp → VK → Prop} {to : TE} (h : to σ H fun x H1 => tyV K T x H1 ∧ f x [] H1 Q) : tBM0 K T f to σ H Q := h
theorem a_par {a b : Nat} (h : tr σ H fun vs H1 => ∃ v w, vs = [v, w] ∧ D.nx ((σ.set a (some v)).set b (some w)) H1) : tPar a b tr D σ H := h
theorem a_par2 {A : V → V → Prop} (h : A x y) : ∃ v w, [x, y] = [v, w] ∧ A v w := ⟨x, y, rfl, h⟩
theorem a_for {wi : TI} (h : wi σ H fun J H1 => ∃ W : Nat → Nat → L2.St → Hp → Prop, (∃ m, W 0 m σ H1) ∧ ∀ i m σ H, W i m σ H →
  (J.stop i H ∧ D.nx σ H) ∨ (J.go i H ∧ ∃ N : L2.St → Hp → Prop, (∀ σ' H', N σ' H' → ∃ m', m' < m ∧ W (i + 1) m' σ' H') ∧ ∀ x H', J.yld i H x H' → g x σ H' fun σ2 H2 => t { D with nx := N, ct := N, bk := D.nx } σ2 H2)) : tFor wi g t D σ H := h
theorem a_rng1 {RR : It → Hp → Prop} (h : tr σ H fun vs H1 => ∃ j : Int, vs = [.int j] ∧ -(2 ^ 62) ≤ j ∧ j < 2 ^ 62 ∧ RR (Itr 0 j.toNat) H1) : iRng1 tr σ H RR := h
theorem a_rng1' {j : Int} {A : Int → Prop} (h1 : -(2 ^ 62) ≤ j) (h2 : j < 2 ^ 62) (h : A j) : ∃ k : Int, [V.int j] = [.int k] ∧ -(2 ^ 62) ≤ k ∧ k < 2 ^ 62 ∧ A k := ⟨j, rfl, h1, h2, h⟩
theorem a_rng2 {RR : It → Hp → Prop} (h : tr σ H fun vs H1 => ∃ i j : Int, vs = [.int i, .int j] ∧ (-(2 ^ 62) ≤ i ∧ i < 2 ^ 62 ∧ -(2 ^ 62) ≤ j ∧ j < 2 ^ 62) ∧ RR (Itr i (j - i).toNat) H1) : iRng2 tr σ H RR := h
theorem a_rng2' {i j : Int} {A : Int → Int → Prop} (h1 : -(2 ^ 62) ≤ i ∧ i < 2 ^ 62 ∧ -(2 ^ 62) ≤ j ∧ j < 2 ^ 62) (h : A i j) : ∃ a b : Int, [V.int i, V.int j] = [.int a, .int b] ∧ (-(2 ^ 62) ≤ a ∧ a < 2 ^ 62 ∧ -(2 ^ 62) ≤ b ∧ b < 2 ^ 62) ∧ A a b := ⟨i, j, rfl, h1, h⟩
theorem a_lc {wi : TI} {tt : TT} {vs : List Nat} (h : wi σ H fun J H1 => ∀ D, H1 D = none → ∃ W : Nat → Nat → Hp → Prop, (∃ m, W 0 m (upd H1 D (.lst []))) ∧ ∀ i m H, W i m H →
  (J.stop i H ∧ Q (.ref D) H) ∨ (J.go i H ∧ ∃ Nx : Hp → Prop, (∀ H', Nx H' → ∃ m', m' < m ∧ W (i + 1) m' H') ∧ ∀ x H', J.yld i H x H' → g x (wipe σ vs) H' fun σ2 H2 => wipe σ2 vs = wipe σ vs ∧ tt σ2 H2 fun b H3 =>
    if b = true then te σ2 H3 fun y H4 => ∃ acc, H4 D = some (.lst acc) ∧ acc.length < sizeLine ∧ Nx (upd H4 D (.lst (acc ++ [y]))) else Nx H3)) : tLc wi g tt te vs σ H Q := h
theorem a_gtup {n : Nat} {gs : TGs} {p : Addr} {xs : List V} {Qs : L2.St → Hp → Prop} (hs : SqT K H p xs) (hl : xs.length = n) (h : gs xs σ H Qs) : gTup K n gs (.ref p) σ H Qs := ⟨p, xs, rfl, hs, hl, h⟩
theorem a_gcons {gs : TGs} {vs : List V} {Qs : L2.St → Hp → Prop} (h : g v σ H fun σ' H' => gs vs σ' H' Qs) : gCons g gs (v :: vs) σ H Qs := ⟨v, vs, rfl, h⟩
theorem a_gnil {Qs : L2.St → Hp → Prop} (h : Qs σ H) : gNil [] σ H Qs := ⟨rfl, h⟩
theorem a_yes (h : QB true H) : tYes σ H QB := h
-- by values
theorem a_I0 {f : Int → Int → V} {m n : Int} (h : Q (f m n) H) : rI0 f (.int m) (.int n) H Q := ⟨m, n, rfl, rfl, h⟩
theorem a_I {C : Int → Int → Prop} {f : Int → Int → V} {m n : Int} (hc : C m n) (h : Q (f m n) H) : rI C f (.int m) (.int n) H Q := ⟨m, n, rfl, rfl, hc, h⟩
theorem a_eqI {m n : Int} (h : Q (.bl (decide (m = n))) H) : rEq (.int m) (.int n) H Q := ⟨rfl, by
  have e : decide (V.int m = V.int n) = decide (m = n) := by rw [dec_int, Bool.beq_eq_decide_eq]
  rw [e]; exact h⟩
theorem a_neI {m n : Int} (h : Q (.bl (!decide (m = n))) H) : rNe (.int m) (.int n) H Q := ⟨rfl, by
  have e : decide (V.int m = V.int n) = decide (m = n) := by rw [dec_int, Bool.beq_eq_decide_eq]
  rw [e]; exact h⟩
theorem a_isN1 (h : Q (.bl true) H) : rIsN .non .non H Q := ⟨rfl, h⟩
theorem a_isN0 (hx : x ≠ .non) (h : Q (.bl false) H) : rIsN x .non H Q := ⟨rfl, by rw [decide_eq_false hx]; exact h⟩
theorem a_notN1 (h : Q (.bl false) H) : rNotN .non .non H Q := ⟨rfl, h⟩
theorem a_notN0 (hx : x ≠ .non) (h : Q (.bl true) H) : rNotN x .non H Q := ⟨rfl, by rw [decide_eq_false hx]; exact h⟩
theorem a_ixL {p : Addr} {xs : List V} {n : Int} (hs : SqL K H p xs) (ha : atI xs n = some v) (h : Q v H) : rIxL K (.ref p) (.int n) H Q := ⟨p, xs, n, v, rfl, rfl, hs, ha, h⟩
theorem a_ixT {p : Addr} {xs : List V} {n : Int} (hs : SqT K H p xs) (ha : atI xs n = some v) (h : Q v H) : rIxT K (.ref p) (.int n) H Q := ⟨p, xs, n, v, rfl, rfl, hs, ha, h⟩
theorem a_setL {B : Hp} {Lw : List (Addr × HO)} {p : Addr} {xs : List V} {n : Int} {j : Nat} {Qh : Hp → Prop} (O : Own B Lw H) (i : Nat) (h : Lw[i]? = some (p, .lst xs)) (hj : ixN xs.length n = some j)
    (q : ∀ H', Own B (Lw.set i (p, .lst (xs.set j v))) H' → Qh H') : rSetL (.ref p) (.int n) v H Qh := ⟨p, xs, n, j, rfl, rfl, O.get i h, hj, q _ (O.put i h)⟩
theorem a_app {B : Hp} {Lw : List (Addr × HO)} {p : Addr} {xs : List V} (O : Own B Lw H) (i : Nat) (h : Lw[i]? = some (p, .lst xs)) (hl : xs.length ≤ 1000000)
    (q : ∀ H', Own B (Lw.set i (p, .lst (xs ++ [y]))) H' → Q .non H') : rAppend (.ref p) [y] H Q := ⟨p, xs, y, rfl, rfl, O.get i h, Nat.lt_of_le_of_lt hl (by decide), q _ (O.put i h)⟩
theorem a_mkL {B : Hp} {Lw : List (Addr × HO)} {xs : List V} (O : Own B Lw H) (hl : xs.length ≤ 1000000) (q : ∀ p H', H p = none → Own B ((p, .lst xs) :: Lw) H' → Q (.ref p) H') : NewL xs H Q :=
  ⟨Nat.le_trans hl (by decide), fun p hp => q p _ hp (O.new hp)⟩
theorem a_mkT {B : Hp} {Lw : List (Addr × HO)} {xs : List V} (O : Own B Lw H) (hl : xs.length ≤ 1000000) (q : ∀ p H', H p = none → Own B ((p, .tup xs) :: Lw) H' → Q (.ref p) H') : NewT xs H Q :=
  ⟨Nat.le_trans hl (by decide), fun p hp => q p _ hp (O.new hp)⟩
theorem a_int1 {n : Int} {A : Int → Prop} {C : Prop} (h : A n) : (∃ i, [V.int n] = [V.int i] ∧ A i) ∨ C := .inl ⟨n, rfl, h⟩
theorem a_len {q : Addr} {ys : List V} (hs : SqL K H q ys ∨ SqT K H q ys) (h : Q (.int ys.length) H) : rLen K [V.ref q] H Q := ⟨q, ys, rfl, hs, h⟩
theorem a_sum {a : Addr} {ns : List Int} (hs : SqL K H a (ns.map V.int)) (h : Q (.int ns.sum) H) : rSum K [V.ref a] H Q := ⟨a, ns, rfl, hs, h⟩
theorem a_tupL {B : Hp} {Lw : List (Addr × HO)} {a : Addr} {xs : List V} (O : Own B Lw H) (hs : SqL K H a xs) (h : ∀ p H', H p = none → Own B ((p, .tup xs) :: Lw) H' → Q (.ref p) H') : rTupOf K [V.ref a] H Q := ⟨a, xs, rfl, .inl ⟨hs, fun l hl => h l _ hl (O.new hl)⟩⟩
theorem a_tupT {a : Addr} {xs : List V} (hs : SqT K H a xs) (h : Q (.ref a) H) : rTupOf K [V.ref a] H Q := ⟨a, xs, rfl, .inr ⟨hs, h⟩⟩
theorem a_lstO {B : Hp} {Lw : List (Addr × HO)} {a : Addr} {xs : List V} (O : Own B Lw H) (hs : SqL K H a xs ∨ SqT K H a xs) (h : ∀ p H', H p = none → Own B ((p, .lst xs) :: Lw) H' → Q (.ref p) H') : rLstOf K [V.ref a] H Q := ⟨a, xs, rfl, hs, fun l hl => h l _ hl (O.new hl)⟩
theorem a_pow {m n : Int} {k : Nat} (hn : n = (k : Int)) (hk : k ≤ 1000000) (hm : m.natAbs < 2 ^ 64) (h : Q (.int (m ^ k)) H) : rI CPow (fun i j => .int (i ^ j.toNat)) (.int m) (.int n) H Q := by
  subst hn
  exact ⟨m, k, rfl, rfl, ⟨by omega, by omega, hm⟩, h⟩
theorem a_abs {n : Int} (h : Q (.int (n.natAbs : Int)) H) : rAbs [V.int n] H Q := ⟨n, rfl, by
  have e : (if n < 0 then -n else n) = (n.natAbs : Int) := by split <;> omega
  rw [e]; exact h⟩
-- tests
theorem a_tt {A B : Prop} (h : A) : if true = true then A else B := by rw [if_pos rfl]; exact h
theorem a_ff {A B : Prop} (h : B) : if false = true then A else B := by rw [if_neg Bool.false_ne_true]; exact h
theorem a_nt {A B : Prop} (h : B) : if (!true) = true then A else B := a_ff h
theorem a_nf {A B : Prop} (h : A) : if (!false) = true then A else B := a_tt h
theorem a_itT {p A B : Prop} [Decidable p] (hp : p) (h : A) : if decide p = true then A else B := by rw [if_pos (decide_eq_true hp)]; exact h
theorem a_itF {p A B : Prop} [Decidable p] (hp : ¬ p) (h : B) : if decide p = true then A else B := by rw [if_neg (by rw [decide_eq_false hp]; decide)]; exact h
theorem a_it2 {p A B : Prop} [Decidable p] (h1 : p → A) (h2 : ¬ p → B) : if decide p = true then A else B := by
  by_cases hp : p
  · exact a_itT hp (h1 hp)
  · exact a_itF hp (h2 hp)
theorem a_niT {p A B : Prop} [Decidable p] (hp : p) (h : B) : if (!decide p) = true then A else B := by rw [decide_eq_true hp]; exact a_nt h
theorem a_niF {p A B : Prop} [Decidable p] (hp : ¬ p) (h : A) : if (!decide p) = true then A else B := by rw [decide_eq_false hp]; exact a_nf h
theorem a_ni2 {p A B : Prop} [Decidable p] (h1 : p → B) (h2 : ¬ p → A) : if (!decide p) = true then A else B := by
  by_cases hp : p
  · exact a_niT hp (h1 hp)
  · exact a_niF hp (h2 hp)
theorem a_itB {b : Bool} {A B : Prop} (h1 : b = true → A) (h2 : b = false → B) : if b = true then A else B := by
  cases b with
  | true => exact a_tt (h1 rfl)
  | false => exact a_ff (h2 rfl)
theorem a_niB {b : Bool} {A B : Prop} (h1 : b = true → B) (h2 : b = false → A) : if (!b) = true then A else B := by
  cases b with
  | true => exact a_nt (h1 rfl)
  | false => exact a_nf (h2 rfl)
theorem a_cT {p q A B : Prop} [Decidable p] [Decidable q] (hp : p) (hq : q) (h : A) : if (decide p && decide q) = true then A else B := by rw [decide_eq_true hp, decide_eq_true hq]; exact a_tt h
theorem a_cF {p q A B : Prop} [Decidable p] [Decidable q] (hp : ¬ (p ∧ q)) (h : B) : if (decide p && decide q) = true then A else B := by
  by_cases h1 : p
  · rw [decide_eq_true h1, decide_eq_false (fun z => hp ⟨h1, z⟩)]; exact a_ff h
  · rw [decide_eq_false h1]; exact a_ff h
theorem a_ncT {p q A B : Prop} [Decidable p] [Decidable q] (hp : p) (hq : q) (h : B) : if (!(decide p && decide q)) = true then A else B := by rw [decide_eq_true hp, decide_eq_true hq]; exact a_nt h
theorem a_isiI {i : Int} (h : Q (.bl true) H) : rIsi K [.int i, .ty "int"] H Q := ⟨_, _, .type "int", .type "int", true, rfl, .ty _, .base (.int i), kit_ty (by decide +kernel), h⟩
theorem a_isiB {i : Int} (h : Q (.bl false) H) : rIsi K [.int i, .ty "bool"] H Q := ⟨_, _, .type "int", .type "bool", false, rfl, .ty _, .base (.int i), kit_ty (by decide +kernel), h⟩
end
theorem divW {m n : Int} (h : 0 < n) (h' : n < 10 ^ 60) : CDivW m n := wide_div (b := 200) h (by
  have q : (10 : Int) ^ 60 < 2 ^ 200 := by decide
  have r : n < 2 ^ 200 := Int.lt_trans h' q
  omega) (by decide) (by decide)
theorem at0 {α : Type} {xs : List α} {n : Int} {j : Nat} {v : α} (e : n = (j : Int)) (h : xs[j]? = some v) : atI xs n = some v := by
  rw [e]; exact atI_nat h
end R
namespace R
open PySem PySem.Spec PyProof.Rows L2
theorem mx_w {i j : Int} (a b : Nat) (ha : i.natAbs < 2 ^ a) (hb : j.natAbs < 2 ^ b) (h0 : 0 < a := by decide) (h1 : 0 < b := by decide) (h : a + b ≤ 1000000 := by decide) : IntMulOk i j := (wide_mul ha hb h0 h1 h).ok
end R
namespace R
open PySem PySem.Spec PyProof.Rows L2
open PySem.W (Frag)
section
variable {K : Frag} {B H : Hp} {Lw : List (Addr × HO)} {p : Addr} {z : Int} {Q : VK}
/-- an item of a written list at a drawn place -/
theorem a_ixV {xs : List V} (O : Own B Lw H) (i : Nat) (h : Lw[i]? = some (p, .lst xs)) (h0 : 0 ≤ z) (h1 : z < xs.length) (q : ∀ v, v ∈ xs → Q v H) : rIxL K (.ref p) (.int z) H Q := by
  have e : z.toNat < xs.length := by omega
  exact a_ixL (O.sq i h) (at0 (j := z.toNat) (by omega) (List.getElem?_eq_getElem e)) (q _ (List.getElem_mem e))
theorem a_ixM {ms : List Int} (O : Own B Lw H) (i : Nat) (h : Lw[i]? = some (p, .lst (ms.map V.int))) (h0 : 0 ≤ z) (h1 : z < ms.length) (q : ∀ m, m ∈ ms → Q (.int m) H) : rIxL K (.ref p) (.int z) H Q :=
  a_ixV O i h h0 (by rw [List.length_map]; exact h1) fun v hv => by
    obtain ⟨m, hm, rfl⟩ := List.mem_map.mp hv
    exact q m hm
end
end R
namespace R
open PySem PySem.Spec PyProof.Rows L2
open PySem.W (Frag)
section
variable {K : Frag} {B H : Hp} {Lw : List (Addr × HO)} {p : Addr} {z : Int} {Q : VK}
/-- an item of a list of ints -/
theorem a_ixI {ms : List Int} (O : Own B Lw H) (i : Nat) (h : Lw[i]? = some (p, .lst (ms.map V.int))) (h0 : 0 ≤ z) (h1 : z.toNat < ms.length) (q : Q (.int (ms[z.toNat])) H) : rIxL K (.ref p) (.int z) H Q :=
  a_ixL (O.sq i h) (at0 (j := z.toNat) (by omega) (by rw [List.getElem?_map, List.getElem?_eq_getElem h1]; rfl)) q
end
end R
namespace R
open PySem PySem.Spec PyProof.Rows L2
/-- an if whose test comes out one way on all ways -/
theorem a_ifNo {c : TT} {t u : TS} {D : Ends} {σ : L2.St} {H : Hp} (hc : ∀ QB : Bool → Hp → Prop, QB false H → c σ H QB) (h : u D σ H) : tIfS c t u D σ H := hc _ (a_ff h)
theorem a_ifYes {c : TT} {t u : TS} {D : Ends} {σ : L2.St} {H : Hp} (hc : ∀ QB : Bool → Hp → Prop, QB true H → c σ H QB) (h : t D σ H) : tIfS c t u D σ H := hc _ (a_tt h)
theorem a_ifNoH {c : TT} {t u : TS} {D : Ends} {σ : L2.St} {H : Hp} (P : Hp → Prop) (hc : ∀ QB : Bool → Hp → Prop, (∀ H', P H' → QB false H') → c σ H QB) (h : ∀ H', P H' → u D σ H') : tIfS c t u D σ H := hc _ fun H' p => a_ff (h H' p)
end R
namespace R
open PySem PySem.Spec PyProof.Rows L2
theorem q_F {p : Prop} [Decidable p] {QB : Bool → Hp → Prop} {H : Hp} (hq : QB false H) (hp : ¬ p) : QB (decide p) H := by rw [decide_eq_false hp]; exact hq
theorem q_T {p : Prop} [Decidable p] {QB : Bool → Hp → Prop} {H : Hp} (hq : QB true H) (hp : p) : QB (decide p) H := by rw [decide_eq_true hp]; exact hq
theorem q_nT {p : Prop} [Decidable p] {QB : Bool → Hp → Prop} {H : Hp} (hq : QB false H) (hp : p) : QB (!decide p) H := by rw [decide_eq_true hp]; exact hq
theorem q_nF {p : Prop} [Decidable p] {QB : Bool → Hp → Prop} {H : Hp} (hq : QB true H) (hp : ¬ p) : QB (!decide p) H := by rw [decide_eq_false hp]; exact hq
end R
namespace R
open PySem PySem.Spec PyProof.Rows L2
/-- while: W by a measure -/
theorem a_while {c : TT} {tb : TS} {D : Ends} {σ : L2.St} {H : Hp} (W : Nat → L2.St → Hp → Prop) (h0 : ∃ m, W m σ H)
    (hs : ∀ m σ H, W m σ H → c σ H fun b H1 => if b = true then (∃ N : L2.St → Hp → Prop, (∀ σ' H', N σ' H' → ∃ m', m' < m ∧ W m' σ' H') ∧ tb { D with nx := N, ct := N, bk := D.nx } σ H1) else D.nx σ H1) : tWhile c tb D σ H := ⟨W, h0, hs⟩
theorem a_turn {tb : TS} {D : Ends} {σ : L2.St} {H1 : Hp} {m : Nat} {W : Nat → L2.St → Hp → Prop} (h : tb { D with nx := fun σ' H' => ∃ m', m' < m ∧ W m' σ' H', ct := fun σ' H' => ∃ m', m' < m ∧ W m' σ' H', bk := D.nx } σ H1) :
    ∃ N : L2.St → Hp → Prop, (∀ σ' H', N σ' H' → ∃ m', m' < m ∧ W m' σ' H') ∧ tb { D with nx := N, ct := N, bk := D.nx } σ H1 := ⟨_, fun _ _ h => h, h⟩
end R
namespace R
open PySem PySem.Spec PyProof.Rows L2
open PySem.W (Frag)
section
variable {K : Frag} {tr : TA} {tl : TE} {σ : L2.St} {H : Hp} {RR : It → Hp → Prop}
theorem a_enum {tr : TA} (h : tr σ H fun vs H1 => ∃ a xs, vs = [.ref a] ∧ SqL K H1 a xs ∧ RR (Ite K a) H1) : iEnum K tr σ H RR := h
theorem a_iL (h : tl σ H fun x H1 => ∃ a, x = .ref a ∧ (∃ xs, SqL K H1 a xs) ∧ RR (Itl K a) H1) : iList K tl σ H RR := h
theorem a_iT (h : tl σ H fun x H1 => ∃ a, x = .ref a ∧ (∃ xs, SqT K H1 a xs) ∧ RR (Itt K a) H1) : iTup K tl σ H RR := h
end
end R
namespace R
open PySem PySem.Spec PyProof.Rows L2
open PySem.W (Frag)
section
variable {K : Frag} {te : TE} {σ : L2.St} {H B : Hp} {Q : VK} {Lw : List (Addr × HO)} {a : Addr} {xs : List V}
def rRev (K : Frag) : V → Hp → VK → Prop := fun x H Q => ∃ a xs, x = .ref a ∧ SqL K H a xs ∧ ∀ p, H p = none → Q (.ref p) (upd H p (.lst xs.reverse))
theorem a_rev (h : te σ H fun x H1 => rRev K x H1 Q) : tRevL K te σ H Q := h
theorem a_revL (O : Own B Lw H) (hs : SqL K H a xs) (q : ∀ p H', H p = none → Own B ((p, .lst xs.reverse) :: Lw) H' → Q (.ref p) H') : rRev K (.ref a) H Q := ⟨a, xs, rfl, hs, fun p hp => q p _ hp (O.new hp)⟩
end
end R
namespace R
open PySem PySem.Spec PyProof.Rows L2
open PySem.W (Frag)
/-! ### within a comprehension: the frag named -/
theorem pe_fldK {X : Cx} {K : Frag} {e : Expr} {f : Str} {pos : Pos} {ta : TE} (he : PE X e ta) (hb : attributeBase e f X.env (eval e X.env) = eval e X.env) (hK : X.K = K := by rfl) : PE X (.Attribute e f pos) (tFld K ta f) := by
  subst hK; exact pe_fld he hb
theorem pg_tupK {X : Cx} {K : Frag} {pos : Pos} {es : List Expr} {k : Nat} {t : TGs} {n : Nat} (hc : X.calm = true) (h : PGs X es t) (hK : X.K = K := by rfl) (hn : (assignEach es X.env).length = n := by rfl) (hst : (assignEach es X.env).findIdx? (·.1) = none := by rfl) : PG X (.Tuple es k pos) (gTup K n t) := by
  subst hK; exact pg_tup hc h hn hst
end R

namespace R
/-! ## the first one of a row -/
theorem find_more {α : Type} {g : Nat → Option α} {i : Nat} (h : (List.range i).findSome? g = none) (e : g i = none) : (List.range (i + 1)).findSome? g = none := by
  rw [List.range_succ, List.findSome?_append, h]
  simp [e]
theorem find_hit {α : Type} {g : Nat → Option α} {i : Nat} {x : α} (h : (List.range i).findSome? g = none) (e : g i = some x) : ∀ n : Nat, i < n → (List.range n).findSome? g = some x := by
  intro n
  induction n with
  | zero => intro z; omega
  | succ n ih =>
    intro z
    rw [List.range_succ, List.findSome?_append]
    by_cases q : i = n
    · rw [← q, h]; simp [e]
    · rw [ih (by omega)]; rfl
theorem pow_bits {b : Int} {n m : Nat} (h0 : 0 ≤ b) (h1 : b ≤ 16) (hn : n ≤ m) : (b ^ n).natAbs < 2 ^ (4 * m + 1) := by
  rw [Int.natAbs_pow]
  have e1 : b.natAbs ≤ 16 := by omega
  have e2 : b.natAbs ^ n ≤ 16 ^ n := Nat.pow_le_pow_left e1 n
  have e3 : (16 : Nat) ^ n = 2 ^ (4 * n) := by rw [Nat.pow_mul]
  have e4 : (2 : Nat) ^ (4 * n) ≤ 2 ^ (4 * m) := Nat.pow_le_pow_right (by decide) (by omega)
  have e5 : (2 : Nat) ^ (4 * m + 1) = 2 ^ (4 * m) * 2 := Nat.pow_succ ..
  have e6 : 0 < (2 : Nat) ^ (4 * m) := Nat.pow_pos (by decide)
  omega
end R
namespace R
theorem find_ext {α : Type} {g : Nat → Option α} {n : Nat} : ∀ m : Nat, n ≤ m → (∀ i, n ≤ i → i < m → g i = none) → (List.range m).findSome? g = (List.range n).findSome? g := by
  intro m
  induction m with
  | zero => intro h _; rw [Nat.le_zero.mp h]
  | succ m ih =>
    intro h k
    by_cases e : n = m + 1
    · rw [e]
    · rw [List.range_succ, List.findSome?_append, ih (by omega) fun i h1 h2 => k i h1 (by omega)]
      simp [k m (by omega) (by omega)]
theorem find_same {α : Type} {g g' : Nat → Option α} : ∀ n : Nat, (∀ i, i < n → g i = g' i) → (List.range n).findSome? g = (List.range n).findSome? g' := by
  intro n
  induction n with
  | zero => intro _; rfl
  | succ n ih =>
    intro k
    rw [List.range_succ, List.findSome?_append, List.findSome?_append, ih fun i h => k i (by omega)]
    simp [k n (by omega)]
/-- the first hit: all of the rows ahead of i, and j of row i -/
def fst2 (h : Nat → Nat → Option Int) (B i j : Nat) : Option (Nat × Int) :=
  ((List.range i).findSome? fun p => ((List.range B).findSome? (h p)).map fun x => (p, x)).or (((List.range j).findSome? (h i)).map fun x => (i, x))
theorem fst2_yes {h : Nat → Nat → Option Int} {B i j : Nat} {x : Int} (e : h i j = some x) : fst2 h B i (j + 1) = (fst2 h B i j).or (some (i, x)) := by
  unfold fst2
  rw [List.range_succ, List.findSome?_append]
  cases (List.range i).findSome? fun p => ((List.range B).findSome? (h p)).map fun x => (p, x) <;> cases (List.range j).findSome? (h i) <;> simp [e]
theorem fst2_no {h : Nat → Nat → Option Int} {B i j : Nat} (e : h i j = none) : fst2 h B i (j + 1) = fst2 h B i j := by
  unfold fst2
  rw [List.range_succ, List.findSome?_append]
  cases (List.range j).findSome? (h i) <;> simp [e]
theorem fst2_row {h : Nat → Nat → Option Int} {B i : Nat} : fst2 h B (i + 1) 0 = fst2 h B i B := by
  unfold fst2
  rw [List.range_succ, List.findSome?_append]
  simp
theorem fst2_all {h : Nat → Nat → Option Int} {B i : Nat} : fst2 h B i 0 = (List.range i).findSome? fun p => ((List.range B).findSome? (h p)).map fun x => (p, x) := by
  unfold fst2
  simp
theorem head_snoc {α : Type} (ps : List α) (x : α) : (ps ++ [x]).head? = ps.head?.or (some x) := by
  cases ps <;> rfl
end R

namespace R
open PySem PySem.Spec PyProof.Rows L2
open PySem.W (Frag)
/-! ## lists and tuples as data -/
theorem canAll_map {α : Type} {f : α → PyData} (h : ∀ a, (f a).canLay0 = true) : ∀ l : List α, PyData.canLayAll0 (l.map f) = true
  | [] => rfl
  | a :: l => by
    show ((f a).canLay0 && PyData.canLayAll0 (l.map f)) = true
    rw [h a, canAll_map h l]; rfl
theorem depthAll_map {α : Type} {f : α → PyData} {n : Nat} (h : ∀ a, (f a).depth ≤ n) : ∀ l : List α, PyData.depthAll (l.map f) ≤ n
  | [] => Nat.zero_le _
  | a :: l => by
    have h1 := h a
    have h2 := depthAll_map h l
    show max (f a).depth (PyData.depthAll (l.map f)) ≤ n
    omega
theorem dpAll_map {α : Type} {K : Frag} {H : Hp} {g : α → V} {f : α → PyData} (h : ∀ a, Dp K H (g a) (f a)) : ∀ l : List α, DpAll K H (l.map g) (l.map f)
  | [] => .nil
  | a :: l => .cons (h a) (dpAll_map h l)
theorem shaped_of {d : PyData} (h1 : d.canLay0 = true) (h2 : d.depth ≤ 64) : SeqAt.shaped d = true := by
  unfold SeqAt.shaped
  rw [h1, decide_eq_true h2]; rfl
/-- a list of ints -/
def pyL (ns : List Int) : PyData := .list (ns.map .int)
def pyT (ns : List Int) : PyData := .tuple (ns.map .int)
theorem can_pyL (ns : List Int) : (pyL ns).canLay0 = true := canAll_map (fun _ => rfl) ns
theorem can_pyT (ns : List Int) : (pyT ns).canLay0 = true := canAll_map (fun _ => rfl) ns
theorem dep_pyL (ns : List Int) : (pyL ns).depth ≤ 1 := by
  have h := depthAll_map (f := PyData.int) (n := 0) (fun _ => Nat.le_refl 0) ns
  show PyData.depthAll (ns.map .int) + 1 ≤ 1
  omega
theorem dep_pyT (ns : List Int) : (pyT ns).depth ≤ 1 := by
  have h := depthAll_map (f := PyData.int) (n := 0) (fun _ => Nat.le_refl 0) ns
  show PyData.depthAll (ns.map .int) + 1 ≤ 1
  omega
section
variable {K : Frag} {H : Hp} {x y : V} {Q : VK} {d : PyData} {a b : Addr} {ns : List Int}
theorem dp_pyL (h : SqL K H a (ns.map V.int)) : Dp K H (.ref a) (pyL ns) := .lst h (dpAll_map (fun i => .int i) ns)
theorem dp_pyT (h : SqT K H a (ns.map V.int)) : Dp K H (.ref a) (pyT ns) := .tup h (dpAll_map (fun i => .int i) ns)
theorem a_eqD (hx : Dp K H x d) (hy : Dp K H y d) (h1 : d.canLay0 = true) (h2 : d.depth ≤ 64) (h : Q (.bl true) H) : rEqD K x y H Q :=
  ⟨d, d, hx, hy, shaped_of h1 h2, shaped_of h1 h2, by rw [SeqAt.eqv_refl d h1]; exact h⟩
theorem a_neD (hx : Dp K H x d) (hy : Dp K H y d) (h1 : d.canLay0 = true) (h2 : d.depth ≤ 64) (h : Q (.bl false) H) : rNeD K x y H Q :=
  ⟨d, d, hx, hy, shaped_of h1 h2, shaped_of h1 h2, by rw [SeqAt.eqv_refl d h1]; exact h⟩
theorem a_eqL (hx : SqL K H a (ns.map V.int)) (hy : SqL K H b (ns.map V.int)) (h : Q (.bl true) H) : rEqD K (.ref a) (.ref b) H Q := a_eqD (dp_pyL hx) (dp_pyL hy) (can_pyL ns) (Nat.le_trans (dep_pyL ns) (by decide)) h
theorem a_neL (hx : SqL K H a (ns.map V.int)) (hy : SqL K H b (ns.map V.int)) (h : Q (.bl false) H) : rNeD K (.ref a) (.ref b) H Q := a_neD (dp_pyL hx) (dp_pyL hy) (can_pyL ns) (Nat.le_trans (dep_pyL ns) (by decide)) h
theorem a_eqT (hx : SqT K H a (ns.map V.int)) (hy : SqT K H b (ns.map V.int)) (h : Q (.bl true) H) : rEqD K (.ref a) (.ref b) H Q := a_eqD (dp_pyT hx) (dp_pyT hy) (can_pyT ns) (Nat.le_trans (dep_pyT ns) (by decide)) h
theorem a_neT (hx : SqT K H a (ns.map V.int)) (hy : SqT K H b (ns.map V.int)) (h : Q (.bl false) H) : rNeD K (.ref a) (.ref b) H Q := a_neD (dp_pyT hx) (dp_pyT hy) (can_pyT ns) (Nat.le_trans (dep_pyT ns) (by decide)) h
end
end R
namespace R
open PySem PySem.Spec PyProof.Rows L2
open PySem.W (Frag)
theorem dpAll_snoc {K : Frag} {H : Hp} {v : V} {d : PyData} (h : Dp K H v d) : ∀ {vs : List V} {ds : List PyData}, DpAll K H vs ds → DpAll K H (vs ++ [v]) (ds ++ [d])
  | _, _, .nil => .cons h .nil
  | _, _, .cons h1 h2 => .cons h1 (dpAll_snoc h h2)
theorem dpAll_len {K : Frag} {H : Hp} : ∀ {vs : List V} {ds : List PyData}, DpAll K H vs ds → vs.length = ds.length
  | _, _, .nil => rfl
  | _, _, .cons _ h2 => by rw [List.length_cons, List.length_cons, dpAll_len h2]
/-- a pair of ints -/
def pyP (p : Nat × Int) : PyData := .tuple [.int p.1, .int p.2]
theorem can_pyP (p : Nat × Int) : (pyP p).canLay0 = true := rfl
theorem dep_pyP (p : Nat × Int) : (pyP p).depth ≤ 1 := Nat.le_refl 1
theorem dp_pyP {K : Frag} {H : Hp} {a : Addr} {p : Nat × Int} (h : SqT K H a [.int p.1, .int p.2]) : Dp K H (.ref a) (pyP p) := .tup h (.cons (.int _) (.cons (.int _) .nil))
/-- != by data that is not the same -/
theorem a_neD' {K : Frag} {H : Hp} {x y : V} {Q : VK} {d e : PyData} (hx : Dp K H x d) (hy : Dp K H y e) (h1 : d.canLay0 = true) (h2 : d.depth ≤ 64) (h3 : e.canLay0 = true) (h4 : e.depth ≤ 64) (n : PyData.eqv d e = false) (h : Q (.bl true) H) : rNeD K x y H Q :=
  ⟨d, e, hx, hy, shaped_of h1 h2, shaped_of h3 h4, by rw [n]; exact h⟩
theorem a_eqD' {K : Frag} {H : Hp} {x y : V} {Q : VK} {d e : PyData} (hx : Dp K H x d) (hy : Dp K H y e) (h1 : d.canLay0 = true) (h2 : d.depth ≤ 64) (h3 : e.canLay0 = true) (h4 : e.depth ≤ 64) (n : PyData.eqv d e = false) (h : Q (.bl false) H) : rEqD K x y H Q :=
  ⟨d, e, hx, hy, shaped_of h1 h2, shaped_of h3 h4, by rw [n]; exact h⟩
end R

/-! ## enumerate(a tuple) -/
namespace PySem
namespace EnT
open PySem.W PySem.Calls PyProof.Rows
set_option maxHeartbeats 4000000
theorem meets_new1 {src : Value} {itO : Obj} {Hx : Heap → Prop} (B : Begins src itO Hx) :
    Meets (Builtin.«enumerate.__new__» ⟨[.type "enumerate", src], []⟩) (fun _ R s => Hx s.heap ∧
      R (.ok (.ret (.ref (s.heap.push itO).objs.size))) { s with heap := (s.heap.push itO).push { cls := .type "enumerate", data := .fields #[.none, .bool false, .ref s.heap.objs.size, rawInt 0, .none, .none] } }) := by
  refine .of_wp fun prog w A R s h => ?_
  obtain ⟨hp0, gn, dr, tks, osx⟩ := s
  obtain ⟨hH, hR⟩ := h
  have hsub := sub_enumerate
  have stp : ∀ {A' : Around} {E : Value → Shared → Prop} {Q : Value → Shared → Prop}, Q (.ref hp0.objs.size) ⟨hp0.push itO, gn, dr, tks, osx⟩ →
      wpAny (model prog w) A' (pyIter src) Q E ⟨hp0, gn, dr, tks, osx⟩ := fun q => B.iter prog w _ _ ⟨hp0, gn, dr, tks, osx⟩ _ hH q
  wp_walk using stp
  refine wpAny_stack_any fun st => wpAny_pure ?_
  split
  · rename_i c _ _ _ _ _
    cases (c == Value.type "enumerate") <;> (wp_walk using stp; exact ⟨_, rfl, hR⟩)
  · wp_walk using stp
    exact ⟨_, rfl, hR⟩
theorem call_new1 {prog : Program} {w : World} {A : Around} {E : Value → Shared → Prop} {s : Shared} {src : Value} {itO : Obj} {Hx : Heap → Prop} {Q : Value → Shared → Prop} (B : Begins src itO Hx) (hH : Hx s.heap)
    (h : ∀ h', IsEnum h' (s.heap.objs.size + 1) s.heap.objs.size 0 .none → h'.get? s.heap.objs.size = some itO → h'.objs.size = s.heap.objs.size + 2 →
      (∀ b o, s.heap.get? b = some o → h'.get? b = some o) → Q (.ref (s.heap.objs.size + 1)) { s with heap := h' }) :
    wpAny (model prog w) A (call (.type "enumerate") [src]) Q E s := by
  have z : (s.heap.push itO).objs.size = s.heap.objs.size + 1 := Heap.size_push ..
  refine callType_new F.called_enumerate (by decide) (F.typeCall_enumerate_1 _) (F.newCall_enumerate_1 _) (fun obj => F.args_object_init_2 obj _) F.entry_enumerate_new (meets_new1 B) ⟨hH, ?_⟩
  show _ ∧ _
  rw [z]
  have en : IsEnum ((s.heap.push itO).push { cls := .type "enumerate", data := .fields #[.none, .bool false, .ref s.heap.objs.size, rawInt 0, .none, .none] }) (s.heap.objs.size + 1) s.heap.objs.size 0 .none := by
    have q := Heap.get?_push_size (s.heap.push itO) (o := { cls := .type "enumerate", data := .fields #[.none, .bool false, .ref s.heap.objs.size, rawInt 0, .none, .none] }) rfl
    rw [z] at q
    exact q
  exact ⟨⟨_, en, rfl⟩, h _ en (Heap.get?_push_of_some _ (Heap.get?_push_size _ B.free)) (by rw [Heap.size_push, z]) fun b o x => Heap.get?_push_of_some _ (Heap.get?_push_of_some _ x)⟩
theorem end2 {prog : Program} {w : World} {A : Around} {E : Value → Shared → Prop} {s : Shared} {e it a : Addr} {i : Int} {j : Nat} {its : Array Value} {old : Value} {Q : Option Value → Shared → Prop} (hh : A.handled = none)
    (hen : IsEnum s.heap e it i old) (hti : s.heap.IsTupleIter it a j) (tp : s.heap.IsTuple a its) (hx : its[j]? = none)
    (k : ∀ h', Heap.ExtBut it s.heap h' → Q none { s with heap := h' }) : wpAny (model prog w) A (pyNext (.ref e)) Q E s := by
  have ty : s.TypeIs (.ref e) "enumerate" := ⟨_, hen, rfl⟩
  unfold pyNext
  refine wpAny_bind (wpAny_attempt (wpAny_callSpecial?_slot (name := Str.ofString "__next__") ty F.slot_enumerate_next ?_))
  refine wpAny_call_entry F.slot_enumerate_next ty F.entry_enumerate_next ?_ (F.args_enumerate_next_1 _)
  show wpAny _ _ (field (.ref e) 2 >>= _) _ _ _
  refine wpAny_bind (wpAny_field hen rfl (x := .ref it) rfl (wpAny_bind (wpAny_nextOf_tuple_end hh hti tp hx fun h' x eb hxo => ?_)))
  obtain ⟨ob, hob, hcl⟩ := hxo
  exact wpAny_bind (wpAny_isInstance (T := "StopIteration") (b := true) ⟨ob, hob, hcl⟩ isSubtype_stop (wpAny_pure (k _ eb)))
end EnT
end PySem
namespace R
open PySem PySem.Spec PyProof.Rows L2
open PySem.W (Frag)
/-- the tuple at a, each item in a new pair -/
def IteT (K : Frag) (a : Addr) : It :=
  ⟨fun i H => ∃ (xs : List V) (x : V), SqT K H a xs ∧ xs[i]? = some x,
   fun i H v H' => ∃ T x, v = .ref T ∧ H T = none ∧ H' = upd H T (.tup [.int (i : Nat), x]) ∧ ∀ xs, SqT K H a xs → xs[i]? = some x,
   fun i H => ∃ xs : List V, SqT K H a xs ∧ xs.length ≤ i⟩
theorem apart_ti {h : Heap} {a it : Addr} {i : Nat} {its : Array Value} (t : h.IsTuple a its) (j : h.IsTupleIter it a i) : a ≠ it := by
  intro z
  obtain ⟨o1, q1, c1, _⟩ := t
  obtain ⟨o2, q2, c2, _⟩ := j
  rw [z, q2] at q1
  cases q1
  rw [c1] at c2
  exact absurd c2 (by decide)
theorem apart_te {h : Heap} {a e it : Addr} {i : Int} {old : Value} {its : Array Value} (t : h.IsTuple a its) (j : IsEnum h e it i old) : e ≠ a := by
  intro z
  obtain ⟨o1, q1, c1, _⟩ := t
  have q2 : h.get? e = some _ := j
  rw [← z, q2] at q1
  cases q1
  exact absurd (show Value.type "enumerate" = Value.type "tuple" from c1) (by decide)
theorem turn_enumT {P : Program} {w : World} {K : Frag} {elts : List Expr} {kk : Nat} {tpos : Pos} (a e it : Addr) :
    Turn P w K (.Tuple elts kk tpos) (IteT K a) [e, it] e (fun i h => (∃ old, IsEnum h e it ((i : Nat) : Int) old) ∧ h.IsTupleIter it a i ∧ e ≠ it) where
  mem := List.mem_cons_self
  obj := fun i h st b hb => by
    obtain ⟨⟨old, hen⟩, ⟨ob, hob, hcl, hdt⟩, _⟩ := st
    rcases List.mem_cons.mp hb with rfl | hb
    · exact ⟨_, hen, fun v q => nomatch q⟩
    · have z : b = it := by simpa using hb
      subst z
      exact ⟨ob, hob, fun v q => by rw [hdt] at q; cases q⟩
  keep := fun i h h' st k => by
    obtain ⟨⟨old, hen⟩, hti, ne⟩ := st
    exact ⟨⟨old, k e (by simp) _ hen⟩, hti.at fun o q => k it (by simp) o q, ne⟩
  item := by
    intro X hP hw hK hc i pins s σ H E I hf st hg
    subst hP hw hK
    obtain ⟨⟨old, hen⟩, hti, ne⟩ := st
    obtain ⟨xs, x, sq, hx⟩ := hg
    obtain ⟨its, rv, tp, _⟩ := I.tuple sq
    obtain ⟨u0, hu0, ru0⟩ := rv.get hx
    have tp' : s.heap.IsTuple a its.toArray := tp
    have n1 := apart_ti tp' hti
    have n2 := apart_te tp' hen
    have le1 : e < s.heap.objs.size := Heap.lt_size hen
    have le2 : it < s.heap.objs.size := by
      obtain ⟨_, q, _⟩ := hti
      exact Heap.lt_size q
    have hi : i < its.toArray.size := by
      obtain ⟨q, _⟩ := List.getElem?_eq_some_iff.mp hu0
      simpa using q
    refine wpAny_pyNext_enum_itemD (Draws.tuple (A := X.A.in1) (show X.A.in1.handled = none from I.ok.hd hc) it a n1 its.toArray) hen ⟨hti, tp'⟩ hi ne (by simp [ne, n2]) fun v h' tk hv hout hst hT _ hk => ?_
    have ev : v = u0 := by
      have q : its.toArray[i]? = some u0 := by simpa using hu0
      rw [q] at hv
      exact (Option.some.inj hv).symm
    subst ev
    refine ⟨_, rfl, wpAny_letOwnedTupleGo_enum (s := { s with heap := h', toks := tk + 1 }) hout fun h'' hen' sb => ?_⟩
    have hT2 : h''.get? s.heap.objs.size = some { cls := .type "tuple", data := .seq #[.int i tk, v] } := (sb.2 _ (Nat.ne_of_gt le1)).trans hT
    have kp : ∀ b ob, b ∉ [e, it] → s.heap.get? b = some ob → h''.get? b = some ob := fun b ob hb q => by
      have q1 : b ≠ e := fun z => hb (by simp [z])
      have q2 : b ≠ it := fun z => hb (by simp [z])
      exact (sb.2 b q1).trans (hk b ob q1 q2 q)
    have nw : ObjOk X.prog X.w (upd H s.heap.objs.size (.tup [.int (i : Nat), x])) h'' s.heap.objs.size (.tup [.int (i : Nat), x]) :=
      ⟨(by show 2 ≤ sizeLine; decide), [.int i tk, v], .cons ⟨_, rfl⟩ (.cons ru0 .nil), ⟨_, hT2, rfl, _, rfl⟩⟩
    have J : Inv X pins σ (upd H s.heap.objs.size (.tup [.int (i : Nat), x])) { s with heap := h'', toks := tk + 1 } := I.turnedNew (ch := [e, it]) kp hf (Nat.le_refl _) nw
    refine ⟨.ref s.heap.objs.size, _, J, rfl, ⟨_, x, rfl, I.hok.fresh (Nat.le_refl _), rfl, fun ys hy => by rw [I.tuple_inj hy sq]; exact hx⟩, ⟨⟨v, ?_⟩, hst.1.at fun o q => (sb.2 it (Ne.symm ne)).trans q, ne⟩, fun b hb => ?_⟩
    · have e1 : ((i + 1 : Nat) : Int) = (i : Int) + 1 := by omega
      rw [e1]
      exact hen'
    · have lb : b < s.heap.objs.size := by
        rcases List.mem_cons.mp hb with z | hb
        · rw [z]; exact le1
        · have z : b = it := by simpa using hb
          rw [z]; exact le2
      rw [upd_ne (Nat.ne_of_lt lb)]
      exact (hf b hb).1
  done := by
    intro X hP hw hK hc i pins s σ H E I hf st hg
    subst hP hw hK
    obtain ⟨⟨old, hen⟩, hti, ne⟩ := st
    obtain ⟨xs, sq, hx⟩ := hg
    obtain ⟨its, rv, tp, _⟩ := I.tuple sq
    have tp' : s.heap.IsTuple a its.toArray := tp
    obtain ⟨f0, f1, f2, f3, f4, f5⟩ := hf it (by simp)
    have hl := rv.length
    refine EnT.end2 (I.ok.hd hc) hen hti tp' (by simp; omega) fun h' eb => ?_
    exact ⟨rfl, I.turned (t' := s.toks) (fun b o hb q => eb b o hb q) f0 f1 f3 f4 f5⟩
  self := fun A i s Q E st h => by
    obtain ⟨⟨_, hen⟩, _⟩ := st
    exact wpAny_pyIter_enum hen h
def iEnumT (K : Frag) (ta : TA) : TI := fun σ H RR => ta σ H fun vs H1 => ∃ a xs, vs = [.ref a] ∧ SqT K H1 a xs ∧ RR (IteT K a) H1
theorem pi_enumT {X : Cx} {e : Expr} {ta : TA} {p pos tpos : Pos} {elts : List Expr} {kk : Nat} (hg : Gl X "enumerate") (hm : X.mg "enumerate" = none) (ha : PA X [e] ta) (hs : starEach [e] X.env = [(false, eval e X.env)] := by rfl) :
    PI X (.Tuple elts kk tpos) (.Call (.Name "enumerate" p) [e] [] pos) (iEnumT X.K ta) := by
  refine ⟨fun pins s σ H RR I h => ?_⟩
  refine Call_ (ld_blt I hg hm boot_enumerate (PyProof.Rows.callWith_type1 (thn (ha.run pos pins s σ H _ I h) fun us s1 ⟨vs, H1, I1, r1, q1⟩ => ?_) hs rfl))
  obtain ⟨a, xs, ev, sq, q⟩ := q1
  subst ev
  obtain ⟨u, hu, ru⟩ := vals1 r1
  subst hu
  cases ru
  obtain ⟨its, rv, tp, _⟩ := I1.tuple sq
  have tp' : s1.heap.IsTuple a its.toArray := tp
  refine EnT.call_new1 (begins_tuple a its.toArray) tp' fun h' hen hit _ hk => wpAny_pyIter_enum hen ?_
  have J : Inv X pins σ H1 { s1 with heap := h' } := I1.kept (t' := s1.toks) hk
  refine ⟨s1.heap.objs.size + 1, [s1.heap.objs.size + 1, s1.heap.objs.size], _, _, H1, rfl, J, turn_enumT a (s1.heap.objs.size + 1) s1.heap.objs.size, ⟨⟨.none, hen⟩, ⟨_, hit, rfl, rfl⟩, Nat.succ_ne_self _⟩, fun b hb => ?_, q⟩
  have le : s1.heap.objs.size ≤ b := by
    rcases List.mem_cons.mp hb with z | hb
    · rw [z]; exact Nat.le_succ _
    · have z : b = s1.heap.objs.size := by simpa using hb
      rw [z]; exact Nat.le_refl _
  exact I1.fpOk le (I1.hok.fresh le)
theorem walk_enumT {K : Frag} {a : Addr} {xs : List V} : Walk (IteT K a) xs.length (fun H => SqT K H a xs) (YPair (fun i => some (.int (i : Nat))) (fun i => xs[i]?)) := by
  refine ⟨fun i _ hi q => ⟨xs, xs[i], q, by simp [hi]⟩, fun _ q => ⟨xs, q, Nat.le_refl _⟩, fun i H v H' _ q y => ?_⟩
  obtain ⟨T, x, h1, h2, h3, h4⟩ := y
  exact ⟨T, .int (i : Nat), x, h1, h2, h3, rfl, h4 xs q⟩
end R
namespace R
open PySem PySem.Spec PyProof.Rows L2
open PySem.W (Frag)
theorem a_enumT {K : Frag} {tr : TA} {σ : L2.St} {H : Hp} {RR : It → Hp → Prop} (h : tr σ H fun vs H1 => ∃ a xs, vs = [.ref a] ∧ SqT K H1 a xs ∧ RR (IteT K a) H1) : iEnumT K tr σ H RR := h
end R

/-! ## fields of an own instance -/
namespace R
open PySem PySem.Spec PyProof.Rows L2
open PySem.W (Frag)
def rFld (K : Frag) (f : Str) : V → Hp → VK → Prop := fun x H Q => ∃ a C dx fs v, x = .ref a ∧ H a = some (.ins C dx fs) ∧ Cls K C ∧ NoAttr K C f ∧ fs.lookup f = some v ∧ Q v H
def rSetF (K : Frag) (f : Str) : V → V → Hp → (Hp → Prop) → Prop := fun x y H P => ∃ a C dx fs, x = .ref a ∧ H a = some (.ins C dx fs) ∧ Cls K C ∧ NoAttr K C f ∧ fs.length < 1000 ∧ P (upd H a (.ins C dx (putF f y fs)))
def NewI (C : Addr) (sp : Sp) (dvs : List V) (E : XK) (vs : List V) (H : Hp) (Q : VK) : Prop := ∀ x dx, H x = none → H dx = none → dx ≠ x →
  sp (.ref x :: (vs ++ dvs)) (upd (upd H dx (.own x)) x (.ins C dx [])) (fun v H2 => v = .non ∧ Q (.ref x) H2) E
section
variable {K : Frag} {f g : Str} {ta tv : TE} {σ : L2.St} {H B : Hp} {Q : VK} {D : Ends} {Lw : List (Addr × HO)} {a C dx : Addr} {fs : List (Str × V)} {v y : V}
theorem a_fld (h : ta σ H fun x H1 => rFld K f x H1 Q) : tFld K ta f σ H Q := h
theorem a_sfld (h : tv σ H fun y H1 => ta σ H1 fun x H2 => rSetF K f x y H2 fun H3 => D.nx σ H3) : sFld K ta tv f D σ H := h
theorem a_getF (h : H a = some (.ins C dx fs)) (cl : Cls K C) (n : NoAttr K C f) (hl : fs.lookup f = some v) (q : Q v H) : rFld K f (.ref a) H Q := ⟨a, C, dx, fs, v, rfl, h, cl, n, hl, q⟩
theorem a_setF {P : Hp → Prop} (O : Own B Lw H) (i : Nat) (h : Lw[i]? = some (a, .ins C dx fs)) (cl : Cls K C) (n : NoAttr K C f) (hl : fs.length < 1000) (q : ∀ H', Own B (Lw.set i (a, .ins C dx (putF f y fs))) H' → P H') : rSetF K f (.ref a) y H P :=
  ⟨a, C, dx, fs, rfl, O.get i h, cl, n, hl, q _ (O.put i h)⟩
theorem lk_eq : ((f, v) :: fs).lookup f = some v := by
  have hb : (f == f) = true := beq_iff_eq.mpr rfl
  simp only [List.lookup, hb]
theorem lk_ne (h : ¬ f = g) : ((g, v) :: fs).lookup f = fs.lookup f := by
  have hb : (f == g) = false := beq_eq_false_iff_ne.mpr h
  simp only [List.lookup, hb]
theorem put_ne (h : ¬ g = f) : putF f y ((g, v) :: fs) = (g, v) :: putF f y fs := by
  show (if g = f then (g, y) :: fs else (g, v) :: putF f y fs) = _
  rw [if_neg h]
theorem put_eq : putF f y ((f, v) :: fs) = (f, y) :: fs := by
  show (if f = f then (f, y) :: fs else (f, v) :: putF f y fs) = _
  rw [if_pos rfl]
theorem put_nil : putF f y [] = [(f, y)] := rfl
/-- a new instance -/
theorem a_make {sp : Sp} {dvs : List V} {E : XK} {t : TA} (h : t σ H fun vs H1 => NewI C sp dvs E vs H1 Q) : tMake C sp dvs E t σ H Q := h
end
end R

namespace R
open PySem PySem.Spec PyProof.Rows L2
open PySem.W (Frag)
variable {K : Frag} {v : V} {σ : L2.St} {H : Hp}
theorem a_glst {n : Nat} {gs : TGs} {p : Addr} {xs : List V} {Qs : L2.St → Hp → Prop} (hs : SqL K H p xs) (hl : xs.length = n) (h : gs xs σ H Qs) : gLst K n gs (.ref p) σ H Qs := ⟨p, xs, rfl, hs, hl, h⟩
theorem pg_lstK {X : Cx} {pos : Pos} {es : List Expr} {k : Nat} {t : TGs} {n : Nat} (hc : X.calm = true) (h : PGs X es t) (hK : X.K = K := by rfl) (hn : (assignEach es X.env).length = n := by rfl) (hst : (assignEach es X.env).findIdx? (·.1) = none := by rfl) : PG X (.Tuple es k pos) (gLst K n t) := by
  subst hK; exact pg_lst hc h hn hst
end R

/-! ## the numbers behind, and the first that fail -/
namespace R
open PySem PySem.Spec PyProof.Rows L2
open PySem.W (Frag)
/-- what a trick makes of n -/
def beh (b k t n : Int) : Int := n / b ^ k.toNat + t * (n % b ^ k.toNat)
/-- a number or None -/
def optV : Option Int → V
  | none => .non
  | some n => .int n
/-- the least number below i with p -/
def fstB (p : Int → Bool) (i : Nat) : Option Int := (List.range i).findSome? fun (j : Nat) => if p j = true then some (j : Int) else none
theorem fstB_zero {p : Int → Bool} : fstB p 0 = none := rfl
theorem fstB_step {p : Int → Bool} {i : Nat} : fstB p (i + 1) = (fstB p i).or (if p i = true then some (i : Int) else none) := by
  unfold fstB
  rw [List.range_succ, List.findSome?_append]
  congr 1
  cases c : p (i : Int) <;> simp [List.findSome?, c]
theorem fstB_yes {p : Int → Bool} {i : Nat} (h : fstB p i = none) (e : p i = true) : fstB p (i + 1) = some (i : Int) := by rw [fstB_step, h, if_pos e]; rfl
theorem fstB_no {p : Int → Bool} {i : Nat} (h : fstB p i = none) (e : p i = false) : fstB p (i + 1) = none := by rw [fstB_step, h, e]; rfl
theorem fstB_old {p : Int → Bool} {i : Nat} {x : Int} (h : fstB p i = some x) : fstB p (i + 1) = some x := by rw [fstB_step, h]; rfl
theorem fstB_hit {p : Int → Bool} {i : Nat} (h : fstB p i = none) (e : p i = true) : ∀ n : Nat, i < n → fstB p n = some (i : Int) := find_hit h (if_pos e)
theorem fstB_none {p : Int → Bool} {n : Nat} (h : fstB p n = none) {x : Int} (h0 : 0 ≤ x) (h1 : x < n) : p x = false := by
  unfold fstB at h
  rw [List.findSome?_eq_none_iff] at h
  have q := h x.toNat (List.mem_range.mpr (by omega))
  have e : ((x.toNat : Nat) : Int) = x := by omega
  rw [e] at q
  cases c : p x with
  | false => rfl
  | true => rw [if_pos c] at q; cases q
theorem fstB_some {p : Int → Bool} {n : Nat} {x : Int} (h : fstB p n = some x) : 0 ≤ x ∧ x < n ∧ p x = true := by
  unfold fstB at h
  obtain ⟨i, hi, e⟩ := List.exists_of_findSome?_eq_some h
  have h1 := List.mem_range.mp hi
  split at e
  · rename_i c
    cases e
    exact ⟨by omega, by omega, c⟩
  · cases e
/-- no rest is kept; a multiple and none -/
def unl (b k t d n : Int) : Bool := !decide (n % d = beh b k t n % d)
def fls (b k t d n : Int) : Bool := decide (n % d = 0) != decide (beh b k t n % d = 0)
theorem beh_turn {b k t d q m : Int} (hB : 0 < b ^ k.toNat) : beh b k t (q * (d * b ^ k.toNat) + m) = q * d + beh b k t m := by
  unfold beh
  generalize b ^ k.toNat = B at *
  have e : q * (d * B) + m = m + B * (q * d) := by
    rw [← Int.mul_assoc, Int.mul_comm (q * d) B]; omega
  rw [e, Int.add_mul_ediv_left _ _ (by omega), Int.add_mul_emod_self_left]
  omega
theorem turn_of {b k t d : Int} (hB : 0 < b ^ k.toNat) (hd : 0 < d) (n : Int) : ∃ m : Int, 0 ≤ m ∧ m < d * b ^ k.toNat ∧ n % d = m % d ∧ beh b k t n % d = beh b k t m % d := by
  have h : 0 < d * b ^ k.toNat := Int.mul_pos hd hB
  refine ⟨n % (d * b ^ k.toNat), Int.emod_nonneg _ (by omega), Int.emod_lt_of_pos _ h, ?_, ?_⟩
  · rw [Int.emod_emod_of_dvd _ (Int.dvd_mul_right d _)]
  · have e := Int.mul_ediv_add_emod n (d * b ^ k.toNat)
    rw [Int.mul_comm] at e
    have q := beh_turn (t := t) (d := d) (q := n / (d * b ^ k.toNat)) (m := n % (d * b ^ k.toNat)) hB
    rw [e] at q
    rw [q, Int.add_comm, Int.add_mul_emod_self_right]
theorem unl_all {b k t d : Int} (hB : 0 < b ^ k.toNat) (hd : 0 < d) (h : fstB (unl b k t d) (d * b ^ k.toNat).toNat = none) (n : Int) : unl b k t d n = false := by
  obtain ⟨m, h0, h1, e1, e2⟩ := turn_of (t := t) hB hd n
  have q := fstB_none h h0 (by omega)
  unfold unl at *
  rw [e1, e2]; exact q
theorem fls_all {b k t d : Int} (hB : 0 < b ^ k.toNat) (hd : 0 < d) (h : fstB (fls b k t d) (d * b ^ k.toNat).toNat = none) (n : Int) : fls b k t d n = false := by
  obtain ⟨m, h0, h1, e1, e2⟩ := turn_of (t := t) hB hd n
  have q := fstB_none h h0 (by omega)
  unfold fls at *
  rw [e1, e2]; exact q
section
variable {H : Hp} {Q : VK}
theorem a_neB {p q : Bool} (h : Q (.bl (p != q)) H) : rNe (.bl p) (.bl q) H Q := ⟨rfl, by rw [dec_bl]; exact h⟩
theorem a_eqB {p q : Bool} (h : Q (.bl (p == q)) H) : rEq (.bl p) (.bl q) H Q := ⟨rfl, by rw [dec_bl]; exact h⟩
theorem a_isO1 (h : Q (.bl true) H) : rIsN (optV none) .non H Q := a_isN1 h
theorem a_isO0 {n : Int} (h : Q (.bl false) H) : rIsN (optV (some n)) .non H Q := a_isN0 (fun z => by cases z) h
theorem a_notO1 (h : Q (.bl false) H) : rNotN (optV none) .non H Q := a_notN1 h
theorem a_notO0 {n : Int} (h : Q (.bl true) H) : rNotN (optV (some n)) .non H Q := a_notN0 (fun z => by cases z) h
theorem a_neO {o : Option Int} (h : Q (.bl false) H) : rNe (optV o) (optV o) H Q := by
  refine ⟨?_, ?_⟩
  · cases o <;> rfl
  · rw [decide_eq_true rfl]; exact h
end
end R
namespace R
open PySem PySem.Spec PyProof.Rows L2
theorem a_par3 {i j l : Nat} {tr : TA} {D : Ends} {σ : L2.St} {H : Hp} (h : tr σ H fun vs H1 => ∃ u v w, vs = [u, v, w] ∧ D.nx (((σ.set i (some u)).set j (some v)).set l (some w)) H1) : tPar3 i j l tr D σ H := h
theorem a_par33 {x y z : V} {A : V → V → V → Prop} (h : A x y z) : ∃ u v w, [x, y, z] = [u, v, w] ∧ A u v w := ⟨x, y, z, rfl, h⟩
end R

/-! ## sums of blocks, the plain side -/
namespace R
open PySem PySem.Spec PyProof.Rows L2
open PySem.W (Frag)
/-- the weight of a block -/
def wt (f l : List Int) (i : Nat) : Int := if i < f.length then (f[i]?).getD 0 else (l[(i - f.length) % l.length]?).getD 0
def nS (B n : Int) : Nat → Int
  | 0 => n
  | i + 1 => nS B n i / B
def sS (f l : List Int) (B n : Int) : Nat → Int
  | 0 => 0
  | i + 1 => sS f l B n i + wt f l i * (nS B n i % B)
/-- r is the sum for n -/
def totR (f l : List Int) (B n r : Int) : Prop := ∃ i, ¬ 0 < nS B n i ∧ (∀ j, j < i → 0 < nS B n j) ∧ r = sS f l B n i
theorem totR_one {f l : List Int} {B n r r' : Int} (h : totR f l B n r) (h' : totR f l B n r') : r = r' := by
  obtain ⟨i, a1, a2, a3⟩ := h
  obtain ⟨j, b1, b2, b3⟩ := h'
  have e : i = j := by
    by_cases c : i < j
    · exact absurd (b2 i c) a1
    · by_cases d : j < i
      · exact absurd (a2 j d) b1
      · omega
  rw [a3, b3, e]
structure SumOk (b k : Int) (f l : List Int) : Prop where
  hb : 2 ≤ b ∧ b ≤ 16
  hk : 1 ≤ k ∧ k ≤ 2
  hf : f.length ≤ 12
  hl : 1 ≤ l.length ∧ l.length ≤ 12
  wf : ∀ w ∈ f, -(10 ^ 6) ≤ w ∧ w ≤ 10 ^ 6
  wl : ∀ w ∈ l, -(10 ^ 6) ≤ w ∧ w ≤ 10 ^ 6
theorem SumOk.wt {b k : Int} {f l : List Int} (h : SumOk b k f l) (i : Nat) : -(10 ^ 6) ≤ R.wt f l i ∧ R.wt f l i ≤ 10 ^ 6 := by
  unfold R.wt
  by_cases c : i < f.length
  · rw [if_pos c, List.getElem?_eq_getElem c]
    exact h.wf _ (List.getElem_mem c)
  · have q : (i - f.length) % l.length < l.length := Nat.mod_lt _ h.hl.1
    rw [if_neg c, List.getElem?_eq_getElem q]
    exact h.wl _ (List.getElem_mem q)
end R

/-! ## rows of tricks: a list or a tuple -/
namespace R
open PySem PySem.Spec PyProof.Rows L2
open PySem.W (Frag)
def EAt (H : Hp) (a : Addr) (xs : List V) : Prop := H a = some (.lst xs) ∨ H a = some (.tup xs)
theorem EAt.up {B H : Hp} {a : Addr} {xs : List V} (s : Same B H) (h : EAt B a xs) : EAt H a xs := h.imp (s _ _) (s _ _)
/-- two rules for one walk -/
def iEi (w1 w2 : TI) : TI := fun σ H RR => w1 σ H RR ∨ w2 σ H RR
theorem pi_either {X : Cx} {tg it : Expr} {w1 w2 : TI} (h1 : PI X tg it w1) (h2 : PI X tg it w2) : PI X tg it (iEi w1 w2) :=
  ⟨fun pins s σ H RR I h => h.elim (h1.run pins s σ H RR I) (h2.run pins s σ H RR I)⟩
section
variable {K : Frag} {B H : Hp} {a : Addr} {xs : List V} {v : Nat} {σ : L2.St} {g : TG} {tb : TS} {D : Ends} {Q : VK}
theorem for_E (hB : EAt B a xs) (hv : σ[v]? = some (some (.ref a))) (Pv : Nat → L2.St → Hp → Prop) (h0 : Pv 0 σ H) (hS : ∀ i σ H, Pv i σ H → Same B H)
    (hs : ∀ i x σ H, xs[i]? = some x → Pv i σ H → g x σ H fun σ2 H2 => tb { D with nx := Pv (i + 1), ct := Pv (i + 1), bk := D.nx } σ2 H2) (hd : ∀ σ H, Pv xs.length σ H → D.nx σ H) : tFor (iEi (iList K (tVar v)) (iTup K (tVar v))) g tb D σ H := by
  refine a_for ?_
  rcases hB with hB | hB
  · have sq : ∀ i σ H, Pv i σ H → SqL K H a xs := fun i σ H p => SqL.of (hS i σ H p _ _ hB)
    refine .inl (a_iL (a_var hv ⟨a, rfl, ⟨xs, sq _ _ _ h0⟩, ?_⟩))
    exact for_it walk_list Pv h0 (fun i σ H _ p => sq i σ H p) (fun i x σ H H' hi p y => by obtain ⟨rfl, y⟩ := y; exact hs i x σ _ y p) hd
  · have sq : ∀ i σ H, Pv i σ H → SqT K H a xs := fun i σ H p => SqT.of (hS i σ H p _ _ hB)
    refine .inr (a_iT (a_var hv ⟨a, rfl, ⟨xs, sq _ _ _ h0⟩, ?_⟩))
    exact for_it walk_tup Pv h0 (fun i σ H _ p => sq i σ H p) (fun i x σ H H' hi p y => by obtain ⟨rfl, y⟩ := y; exact hs i x σ _ y p) hd
theorem for_enumE (hB : EAt B a xs) (hv : σ[v]? = some (some (.ref a))) (Pv : Nat → L2.St → Hp → Prop) (h0 : Pv 0 σ H) (hS : ∀ i σ H, Pv i σ H → Same B H)
    (hs : ∀ i x T σ H, xs[i]? = some x → Pv i σ H → H T = none → g (.ref T) σ (upd H T (.tup [.int (i : Nat), x])) fun σ2 H2 => tb { D with nx := Pv (i + 1), ct := Pv (i + 1), bk := D.nx } σ2 H2) (hd : ∀ σ H, Pv xs.length σ H → D.nx σ H) : tFor (iEi (iEnum K (tCons (tVar v) tNil)) (iEnumT K (tCons (tVar v) tNil))) g tb D σ H := by
  refine a_for ?_
  rcases hB with hB | hB
  · have sq : ∀ i σ H, Pv i σ H → SqL K H a xs := fun i σ H p => SqL.of (hS i σ H p _ _ hB)
    refine .inl (a_enum (a_cons (a_var hv (a_nil ⟨a, xs, rfl, sq _ _ _ h0, ?_⟩))))
    exact for_it walk_enum Pv h0 (fun i σ H _ p => sq i σ H p) (fun i x σ H H' hi p y => by
      obtain ⟨T, u, w, rfl, hT, rfl, e1, e2⟩ := y
      cases e1
      exact hs i w T σ H e2 p hT) hd
  · have sq : ∀ i σ H, Pv i σ H → SqT K H a xs := fun i σ H p => SqT.of (hS i σ H p _ _ hB)
    refine .inr (a_enumT (a_cons (a_var hv (a_nil ⟨a, xs, rfl, sq _ _ _ h0, ?_⟩))))
    exact for_it walk_enumT Pv h0 (fun i σ H _ p => sq i σ H p) (fun i x σ H H' hi p y => by
      obtain ⟨T, u, w, rfl, hT, rfl, e1, e2⟩ := y
      cases e1
      exact hs i w T σ H e2 p hT) hd
theorem a_lenE (h : EAt H a xs) (q : Q (.int xs.length) H) : rLen K [.ref a] H Q := ⟨a, xs, rfl, h.imp SqL.of SqT.of, q⟩
theorem a_isiE {tp : Addr} (h : EAt H a xs) (ht : H tp = some (.tup [.ty "list", .ty "tuple"])) (q : Q (.bl true) H) : rIsiT K [.ref a, .ref tp] H Q := by
  rcases h with h | h
  · exact ⟨_, tp, _, .type "list", [.type "list", .type "tuple"], true, rfl, ht, .cons (.ty _) (.cons (.ty _) .nil), .base (.lst h), kitAny_cons (b := true) (kit_ty (by decide +kernel)) (fun z => by cases z) (fun _ => rfl), q⟩
  · exact ⟨_, tp, _, .type "tuple", [.type "list", .type "tuple"], true, rfl, ht, .cons (.ty _) (.cons (.ty _) .nil), .base (.tup h), kitAny_cons (b := false) (kit_ty (by decide +kernel)) (fun _ => kitAny_cons (b := true) (kit_ty (by decide +kernel)) (fun z => by cases z) (fun _ => rfl)) (fun z => by cases z), q⟩
end
/-! the plain side: tricks one behind the other -/
abbrev Tr := Int × Int × Int
def TrOk (x : Tr) : Prop := (2 ≤ x.1 ∧ x.1 ≤ 16) ∧ (1 ≤ x.2.1 ∧ x.2.1 ≤ 2) ∧ -100 ≤ x.2.2 ∧ x.2.2 ≤ 100
def behT (x : Tr) (n : Int) : Int := beh x.1 x.2.1 x.2.2 n
def blk (x : Tr) : Int := x.1 ^ x.2.1.toNat
def behA : List Tr → Int → Int
  | [], n => n
  | x :: l, n => behA l (behT x n)
def wideA : List Tr → Int
  | [] => 1
  | x :: l => blk x * wideA l
theorem behA_snoc (x : Tr) : ∀ (l : List Tr) (n : Int), behA (l ++ [x]) n = behT x (behA l n)
  | [], _ => rfl
  | y :: l, n => behA_snoc x l (behT y n)
theorem wideA_snoc (x : Tr) : ∀ l : List Tr, wideA (l ++ [x]) = wideA l * blk x
  | [] => by show blk x * 1 = 1 * blk x; rw [Int.mul_one, Int.one_mul]
  | y :: l => by
    show blk y * wideA (l ++ [x]) = blk y * wideA l * blk x
    rw [wideA_snoc x l, Int.mul_assoc]
theorem behA_take {l : List Tr} {i : Nat} (h : i < l.length) (n : Int) : behA (l.take (i + 1)) n = behT l[i] (behA (l.take i) n) := by
  rw [List.take_succ_eq_append_getElem h, behA_snoc]
theorem wideA_take {l : List Tr} {i : Nat} (h : i < l.length) : wideA (l.take (i + 1)) = wideA (l.take i) * blk l[i] := by
  rw [List.take_succ_eq_append_getElem h, wideA_snoc]
theorem blk_pos {x : Tr} (h : TrOk x) : 2 ≤ blk x := by
  obtain ⟨h1, h2, _⟩ := h
  unfold blk
  have e : x.2.1 = 1 ∨ x.2.1 = 2 := by omega
  rcases e with e | e
  · rw [e]
    have z : x.1 ^ (1 : Int).toNat = x.1 := by rw [show (1 : Int).toNat = 1 from rfl, Int.pow_succ, Int.pow_zero, Int.one_mul]
    rw [z]; omega
  · rw [e]
    have z : x.1 ^ (2 : Int).toNat = x.1 * x.1 := by rw [show (2 : Int).toNat = 2 from rfl, Int.pow_succ, Int.pow_succ, Int.pow_zero, Int.one_mul]
    rw [z]
    have q : x.1 * 2 ≤ x.1 * x.1 := Int.mul_le_mul_of_nonneg_left h1.1 (by omega)
    omega
theorem wideA_pos : ∀ {l : List Tr}, (∀ x ∈ l, TrOk x) → 0 < wideA l
  | [], _ => by show (0 : Int) < 1; omega
  | x :: l, h => Int.mul_pos (by have := blk_pos (h x List.mem_cons_self); omega) (wideA_pos fun y hy => h y (List.mem_cons_of_mem _ hy))
def unlA (l : List Tr) (d n : Int) : Bool := !decide (n % d = behA l n % d)
def flsA (l : List Tr) (d n : Int) : Bool := decide (n % d = 0) != decide (behA l n % d = 0)
theorem behT_add {x : Tr} (h : TrOk x) (n m : Int) : behT x (n + m * blk x) = behT x n + m := by
  have hb := blk_pos h
  unfold behT beh
  unfold blk at *
  generalize x.1 ^ x.2.1.toNat = B at *
  rw [Int.add_mul_ediv_right _ _ (by omega), Int.add_mul_emod_self_right]
  omega
theorem behA_add : ∀ {l : List Tr}, (∀ x ∈ l, TrOk x) → ∀ n m : Int, behA l (n + m * wideA l) = behA l n + m
  | [], _, n, m => by show n + m * 1 = n + m; rw [Int.mul_one]
  | x :: l, h, n, m => by
    show behA l (behT x (n + m * (blk x * wideA l))) = behA l (behT x n) + m
    rw [← Int.mul_assoc, Int.mul_comm m (blk x), Int.mul_assoc, Int.mul_comm (blk x), behT_add (h x List.mem_cons_self)]
    exact behA_add (fun y hy => h y (List.mem_cons_of_mem _ hy)) _ _
theorem turnA {l : List Tr} (h : ∀ x ∈ l, TrOk x) {d : Int} (hd : 0 < d) (n : Int) : ∃ m : Int, 0 ≤ m ∧ m < d * wideA l ∧ n % d = m % d ∧ behA l n % d = behA l m % d := by
  have hw := Int.mul_pos hd (wideA_pos h)
  refine ⟨n % (d * wideA l), Int.emod_nonneg _ (by omega), Int.emod_lt_of_pos _ hw, ?_, ?_⟩
  · rw [Int.emod_emod_of_dvd _ (Int.dvd_mul_right d _)]
  · have e := Int.mul_ediv_add_emod n (d * wideA l)
    have q := behA_add h (n % (d * wideA l)) (d * (n / (d * wideA l)))
    have z : n % (d * wideA l) + d * (n / (d * wideA l)) * wideA l = n := by
      rw [Int.mul_assoc, Int.mul_comm (n / (d * wideA l)), ← Int.mul_assoc]; omega
    rw [z] at q
    rw [q, Int.add_mul_emod_self_left]
theorem unlA_all {l : List Tr} (h : ∀ x ∈ l, TrOk x) {d : Int} (hd : 0 < d) (e : fstB (unlA l d) (d * wideA l).toNat = none) (n : Int) : unlA l d n = false := by
  obtain ⟨m, h0, h1, e1, e2⟩ := turnA h hd n
  have q := fstB_none e h0 (by omega)
  unfold unlA at *
  rw [e1, e2]; exact q
theorem flsA_all {l : List Tr} (h : ∀ x ∈ l, TrOk x) {d : Int} (hd : 0 < d) (e : fstB (flsA l d) (d * wideA l).toNat = none) (n : Int) : flsA l d n = false := by
  obtain ⟨m, h0, h1, e1, e2⟩ := turnA h hd n
  have q := fstB_none e h0 (by omega)
  unfold flsA at *
  rw [e1, e2]; exact q
end R

/-! ## own exceptions: classes under an own base, several clauses, calls of a value -/
namespace R
open PySem PySem.Spec PyProof.Rows L2
open PySem.W (Frag)
/-- what the own base must have so that Base.__init__ is ValueError's -/
structure OinC (K : Frag) (C : Addr) : Prop where
  rd : PySem.W.readsIn K C (.type "type") = true
  ga : PySem.W.specialIn K (.ref C) "__getattribute__" = some (some (.builtin "type.__getattribute__"))
  at_ : PySem.W.findCls K (.ref C) (.type "type") "__init__" = some (.val (.builtin "ValueError.__init__"))
section
variable {X : Cx} {x : Str} {CT : Addr} {e : Expr} {es : List Expr} {ta : TA} {p1 p2 pos : Pos}
theorem pe_oeinit {pl : Sem Bool} (hg : Gl X x) (hm : X.mg x = some (.ref CT)) (T : OinC X.K CT) (ha : PA X (e :: es) ta) (hdb : (x == ("__debug__" : Str)) = false := by decide)
    (hc : eval (.Call (.Attribute (.Name x p1) "__init__" p2) (e :: es) [] pos) X.env = (do
      let ov ← eval (.Name x p1) X.env
      standAt p2.atName
      let (f, first) ← holding [ov] (getMethod ov "__init__" pl)
      callWith pos f first (backTo pos (starEach (e :: es) X.env)) (backToKw pos (keywordEach [] X.env))) := by rfl)
    (he : starEach (e :: es) X.env = (false, eval e X.env) :: starEach es X.env := by rfl) (hpl : (backTo pos (starEach es X.env)).any (·.1) = false := by rfl) :
    PE X (.Call (.Attribute (.Name x p1) "__init__" p2) (e :: es) [] pos) (tVeI X.K ta) := by
  refine ⟨fun pins s σ H Q I h => ?_⟩
  refine PySem.W.methodCall_KW (ld_glob I hg hm ?_ hdb) hc
  refine PySem.W.method_cls I.kIn T.ga (PySem.W.cls_value I.kIn T.rd T.at_ (by decide +kernel) ?_)
  show wpAny _ _ (callWith pos (Value.builtin "ValueError.__init__") [] (backTo pos (starEach (e :: es) X.env)) []) _ _ _
  refine PyProof.Rows.callWith_method1 (thn (ha.run pos pins _ σ H _ (I.tok _) h) fun us s1 ⟨vs, H1, I1, r1, a, C, ws, ev, hl, T, ea, q⟩ => ?_) he hpl
  subst ev
  cases r1 with
  | @cons _ u0 _ ur ra rw' =>
    obtain rfl : u0 = Value.ref a := ra
    have hlen : ur.length ≤ sizeLine := by
      rw [← Paired.length rw', sizeLine_eq]
      omega
    exact oinit_ok T I1 ea hlen fun s' J => ⟨.non, H1, J, rfl, q⟩
end
/-- what an __init__ of an own exception promises: without a field, with one -/
def sp_exc0 (C : Addr) : Sp := fun vs H Q _ => ∃ a, vs = [.ref a] ∧ H a = some (exo a C none) ∧ Q .non H
def sp_exc1 (C : Addr) (f : Str) : Sp := fun vs H Q _ => ∃ a v, vs = [.ref a, v] ∧ H a = some (exo a C none) ∧ ∀ dx, H dx = none → dx ≠ a → Q .non (upd (upd H dx (exd dx [(f, v)])) a (exo a C (some dx)))
theorem del_upd {H : Hp} {a : Addr} {o : HO} (h : H a = none) : del (upd H a o) a = H := by
  funext b
  by_cases z : b = a
  · rw [z, del_same, h]
  · rw [del_ne z, upd_ne z]
section
variable {X : Cx}
theorem mk_endN {pins : List (Addr × Obj)} {σ : L2.St} {H1 H2 : Hp} {Q : XK} {hp hp2 h2 : Heap} {g1 g2 : Array GenState} {d1 d2 : Drawn} {t1 t2 : Nat} {os1 os2 : OsState} {a C : Addr} (T : Raises X (.ref C)) (I1 : Inv X pins σ H1 ⟨hp, g1, d1, t1, os1⟩)
    (ha : hp.objs.size ≤ a) (k : ∀ b o, hp.get? b = some o → hp2.get? b = some o) (un : Un (frs X.stack) [] (upd H1 a (exo a C none)) H2 hp2 h2) (hok : HOk X.prog X.w H2 h2) (ho : os2 = os1) (hb : AllBare g2)
    (ea : H2 a = some (exo a C none)) (q : Q (.ref C) none (del H2 a)) : MkP X pins σ Q (.ref a) ⟨h2, g2, d2, t2, os2⟩ := by
  obtain ⟨t0, hoe⟩ := exo_at hok ea
  have hn : H1 a = none := I1.hok.fresh ha
  obtain ⟨G, g1', g2'⟩ := restrict h2 fun b => decide (b ≠ a)
  have gk : ∀ b, b ≠ a → G.get? b = h2.get? b := fun b hb => g1' b (decide_eq_true hb)
  have ge : G.get? a = none := g2' a (by simp)
  have nha : ∀ {b : Addr} {o : Obj}, hp.get? b = some o → b ≠ a := fun {b o} z => Nat.ne_of_lt (Nat.lt_of_lt_of_le (Heap.lt_size z) ha)
  have up : ∀ {b : Addr}, b ≠ a → H1 b = none → upd H1 a (exo a C none) b = none := fun {b} hb n => by rw [upd_ne hb]; exact n
  have U : Un (frs X.stack) [] H1 (del H2 a) hp G := {
    keep := fun b o z n hf hx => by
      rw [gk b (nha z)]
      exact un.keep b o (k b o z) (up (nha z) n) hf hx
    slot := fun b o z n hf hx => by
      rw [gk b (nha z)]
      exact un.slot b o (k b o z) (up (nha z) n) hf hx
    free := fun b o z n hx => by
      rw [del_ne (nha z)]
      exact un.free b o (k b o z) (up (nha z) n) hx
    there := fun b o z hx => by
      rw [gk b (nha z)]
      exact un.there b o (k b o z) hx
    tups := fun b xs z => by
      rw [del_ne (ne_of_none z hn)]
      exact un.tups b xs (by rw [upd_ne (ne_of_none z hn)]; exact z)
    frzs := fun b o v z => by
      rw [del_ne (ne_of_none z hn)]
      exact un.frzs b o v (by rw [upd_ne (ne_of_none z hn)]; exact z)
    tbls := fun b ps z => by
      rw [del_ne (ne_of_none z hn)]
      exact un.tbls b ps (by rw [upd_ne (ne_of_none z hn)]; exact z) }
  have hok3 : HOk X.prog X.w (del H2 a) G := fun b o z => by
    have hba : b ≠ a := fun e => by
      rw [e, del_same] at z
      cases z
    rw [del_ne hba] at z
    have noa : ∀ {c : Addr}, H2 c = some (.own b) → c ≠ a := fun {c} hc => at_ne ea hc exo_own
    exact (hok b o z).stay (fun c v hc y => by
        have hca : c ≠ a := by
          rcases hc with hc | hc
          · rw [hc]
            exact hba
          · exact noa hc
        rw [gk c hca]
        exact y)
      (fun c hc => by rw [del_ne (noa hc)]; exact hc) (fun c xs hc => by rw [del_ne (at_ne ea hc exo_tup)]; exact hc)
  have J : Inv X pins σ (del H2 a) ⟨G, g2, d2, t2, os2⟩ := I1.call' (ch := []) ho U hok3 hb (fun b z => absurd z (by simp))
  refine ⟨a, _, _, ⟨G, g2, d2, t2, os2⟩, _, .ref C, none, rfl, J, fun b o z => ?_, ge, hoe, ⟨rfl, rfl⟩, rfl, rfl, del_same, rfl, hb, T, q⟩
  by_cases hba : b = a
  · rw [hba, ge] at z
    cases z
  · exact (gk b hba).symm.trans z
variable {x : Str} {C fI : Addr} {k : Nat} {fd : FuncData} {ps : List Str} {p pos pos2 : Pos} {W : WX} {f : Str} {e : Expr} {ta : TA}
/-- C() -/
theorem pmk_bad0 (T : OexC X.K C) (iC : PySem.W.findIn X.K (.ref C) "__init__" = some (some (.ref fI))) (tI : PySem.W.typeIn X.K (.ref fI) = some (.type "function"))
    (F1 : FnOk X.prog X.w X.K X.mg X.base CX0 k fI fd ps (sp_exc0 C)) (hr : Room (k + 1) X.A) (hb : Binds X.K fd ps []) (hg : Gl X x) (hm : X.mg x = some (.ref C)) (hdb : (x == ("__debug__" : Str)) = false := by decide) :
    PMk X (.Call (.Name x p) [] [] pos) (fun _ H Q => Q (.ref C) none H) := by
  intro pins s σ H Q I h
  obtain ⟨nm, q, N, bs, bm, sn, sub, ab, col, dd, k0, k1, k2, k3, k5, hC, hbm⟩ := T.cls
  refine wpAny_Call_Name_kw (ld_glob I hg hm ?_ hdb)
  refine PySem.W.callWith_K0 I.kIn T.kC ?_
  show wpAny _ _ (call (.ref C) []) _ _ _
  obtain ⟨hp, g, dr, tk, os⟩ := s
  have hsz : hp.objs.size ≤ hp.objs.size + 1 := Nat.le_succ _
  have hn : H (hp.objs.size + 1) = none := I.hok.fresh hsz
  have hq : sp_exc0 C [V.ref (hp.objs.size + 1)] (upd H (hp.objs.size + 1) (exo (hp.objs.size + 1) C none)) (fun v H2 => v = .non ∧ H2 (hp.objs.size + 1) = some (exo (hp.objs.size + 1) C none) ∧ Q (.ref C) none (del H2 (hp.objs.size + 1))) (fun _ _ _ => False) :=
    ⟨_, rfl, upd_same, rfl, upd_same, by rw [del_upd hn]; exact h⟩
  have kk : ∀ b o, hp.get? b = some o → ((hp.push (PySem.W.kdv_tup [])).push (PySem.HandSPX.excO C hp.objs.size)).get? b = some o := fun b o e => Heap.get?_push_of_some _ (Heap.get?_push_of_some _ e)
  have hget : ((hp.push (PySem.W.kdv_tup [])).push (PySem.HandSPX.excO C hp.objs.size)).get? (hp.objs.size + 1) = some (PySem.HandSPX.excO C hp.objs.size) := by heap_get
  have I2 : Inv X pins σ (upd H (hp.objs.size + 1) (exo (hp.objs.size + 1) C none)) ⟨(hp.push (PySem.W.kdv_tup [])).push (PySem.HandSPX.excO C hp.objs.size), g, dr, tk, os⟩ :=
    I.laid (t' := tk) (a := hp.objs.size + 1) (o := exo (hp.objs.size + 1) C none) (h' := (hp.push (PySem.W.kdv_tup [])).push (PySem.HandSPX.excO C hp.objs.size)) kk hsz (exo_ok hget)
  have r2 : Vals [V.ref (hp.objs.size + 1)] [Value.ref (hp.objs.size + 1)] := .cons rfl .nil
  have hl : ([Value.ref (hp.objs.size + 1)] ++ []).length = ps.length := by
    have e := r2.length
    rw [F1.len _ _ _ _ hq] at e
    exact e.symm
  refine wpAny_call (PySem.HandSPX.call_own F.excBase_ValueError (fun Y => PySem.HandSPX.refsVE_contains Y bm hbm) (I.kIn _ _ hC) (PySem.W.looks_findIn I.kIn iC) (fun self => PySem.W.bind_fn I.kIn self tI) (Nat.zero_le _)
    (codeAny_mono (F1.run _ X.stack _ _ ⟨[Value.ref (hp.objs.size + 1)], []⟩ [Value.ref (hp.objs.size + 1)] _ _ (fun _ _ _ => False) (hr.make C [] []) (I2.env0.make C [] []) (hb _ [Value.ref (hp.objs.size + 1)] I2.kIn hl) r2 hq) fun r s' hq' => ?_))
  cases r with
  | error er => exact hq'.elim
  | ok fl =>
    cases fl with
    | ret u =>
      obtain ⟨v, H2, os2, bare2, un2, hok2, rv, ev, ea, q2⟩ := hq'
      subst ev
      obtain ⟨h2, g2, d2, t2, os'⟩ := s'
      exact ⟨rv, mk_endN (raises_own T.exC T.tyC) I hsz kk un2 hok2 os2 bare2 ea q2⟩
    | next => exact False.elim hq'
    | brk => exact False.elim hq'
    | cont => exact False.elim hq'
def tRaise0 (C : Addr) (W : WX) : TS := fun _ σ H => W (.ref C) none σ H
def R1 (C : Addr) (f : Str) (vs : List V) (H1 : Hp) (Q : XK) : Prop := vs.length ≤ 1000 ∧ ∀ a, H1 a = none → sp_exc1 C f (.ref a :: (vs ++ [])) (upd H1 a (exo a C none))
  (fun v H2 => v = .non ∧ ∃ (d : Addr) (fs : List (Str × V)), H2 a = some (exo a C (some d)) ∧ H2 d = some (exd d fs) ∧ H1 d = none ∧ Q (.ref C) (some d) (upd (del H2 a) d (.xd fs))) (fun _ _ _ => False)
def tRaise1 (C : Addr) (f : Str) (W : WX) (ta : TA) : TS := fun _ σ H => ta σ H fun vs H1 => R1 C f vs H1 fun cls d H' => W cls d σ H'
theorem ps_raise0 (hc : X.calm = true) (tk : Takes X W) (T : OexC X.K C) (iC : PySem.W.findIn X.K (.ref C) "__init__" = some (some (.ref fI))) (tI : PySem.W.typeIn X.K (.ref fI) = some (.type "function"))
    (F1 : FnOk X.prog X.w X.K X.mg X.base CX0 k fI fd ps (sp_exc0 C)) (hr : Room (k + 1) X.A) (hb : Binds X.K fd ps []) (hg : Gl X x) (hm : X.mg x = some (.ref C)) (hdb : (x == ("__debug__" : Str)) = false := by decide) :
    PS X (.Raise (some (.Call (.Name x p) [] [] pos)) none pos2) (tRaise0 C W) := ps_raise hc tk (pmk_bad0 T iC tI F1 hr hb hg hm hdb)
theorem ps_raise1 (hc : X.calm = true) (tk : Takes X W) (T : OexC X.K C) (iC : PySem.W.findIn X.K (.ref C) "__init__" = some (some (.ref fI))) (tI : PySem.W.typeIn X.K (.ref fI) = some (.type "function"))
    (F1 : FnOk X.prog X.w X.K X.mg X.base CX0 k fI fd ps (sp_exc1 C f)) (hr : Room (k + 1) X.A) (hb : Binds X.K fd ps []) (hg : Gl X x) (hm : X.mg x = some (.ref C)) (ha : PA X [e] ta) (hdb : (x == ("__debug__" : Str)) = false := by decide)
    (he : starEach (e :: []) X.env = (false, eval e X.env) :: starEach [] X.env := by rfl) (hpl : (backTo pos (starEach [] X.env)).any (·.1) = false := by rfl) :
    PS X (.Raise (some (.Call (.Name x p) [e] [] pos)) none pos2) (tRaise1 C f W ta) := ps_raise hc tk (pmk_oex T iC tI F1 hr hb .nil (fun _ _ _ _ _ _ _ z => z.elim) hg hm ha hdb he hpl)
theorem a_raise0 {D : Ends} {σ : L2.St} {H : Hp} (h : W (.ref C) none σ H) : tRaise0 C W D σ H := h
theorem a_raise1 {D : Ends} {σ : L2.St} {H : Hp} (h : ta σ H fun vs H1 => R1 C f vs H1 fun cls d H' => W cls d σ H') : tRaise1 C f W ta D σ H := h
theorem a_r1 {v : V} {H1 : Hp} {Q : XK} (h : ∀ d, H1 d = none → Q (.ref C) (some d) (upd H1 d (.xd [(f, v)]))) : R1 C f [v] H1 Q := by
  refine ⟨(by show 1 ≤ 1000; decide), fun a ha => ⟨a, v, rfl, upd_same, fun dx hdx ne => ⟨rfl, dx, [(f, v)], upd_same, ?_, ?_, ?_⟩⟩⟩
  · rw [upd_ne ne, upd_same]
  · rw [upd_ne ne] at hdx; exact hdx
  · have hd1 : H1 dx = none := by rw [upd_ne ne] at hdx; exact hdx
    have e : upd (del (upd (upd (upd H1 a (exo a C none)) dx (exd dx [(f, v)])) a (exo a C (some dx))) a) dx (.xd [(f, v)]) = upd H1 dx (.xd [(f, v)]) := by
      funext b
      by_cases z : b = dx
      · rw [z, upd_same, upd_same]
      · rw [upd_ne z, upd_ne z]
        by_cases y : b = a
        · rw [y, del_same, ha]
        · rw [del_ne y, upd_ne y, upd_ne z, upd_ne y]
    rw [e]
    exact h dx hd1
end
/-! ### readings of the __init__s -/
section
variable {K : Frag} {ta : TA} {to te : TE} {f : Str} {σ : L2.St} {H : Hp} {Q : VK} {D : Ends}
theorem a_vei (h : ta σ H fun vs H1 => ∃ (a C : Addr) (ws : List V), vs = .ref a :: ws ∧ ws.length ≤ 1000 ∧ OexC K C ∧ H1 a = some (exo a C none) ∧ Q .non H1) : tVeI K ta σ H Q := h
def rOst (K : Frag) (f : Str) (y x : V) (H2 : Hp) (P : Hp → Prop) : Prop := ∃ a C : Addr, x = .ref a ∧ OexC K C ∧ PySem.W.findIn K (.ref C) f = some none ∧
  ((H2 a = some (exo a C none) ∧ ∀ dx, H2 dx = none → dx ≠ a → P (upd (upd H2 dx (exd dx [(f, y)])) a (exo a C (some dx)))) ∨
    ∃ (dx : Addr) (fs : List (Str × V)), H2 a = some (exo a C (some dx)) ∧ H2 dx = some (exd dx fs) ∧ fs.length ≤ 900 ∧ P (upd H2 dx (exd dx ((f, y) :: fs))))
theorem a_ost (h : te σ H fun y H1 => to σ H1 fun x H2 => rOst K f y x H2 fun H3 => D.nx σ H3) : tOst K f to te D σ H := h
end
/-! ### try: several clauses, with or without a name -/
def asTs (i : Nat) (ts : Addr → Value → Option Addr → TS) : Addr → Value → Option Addr → TS := fun a cls d D σ H =>
  ts a cls d { nx := fun σ' H' => D.nx (σ'.set i none) H', rt := D.rt, bk := fun σ' H' => D.bk (σ'.set i none) H', ct := fun σ' H' => D.ct (σ'.set i none) H' } (σ.set i (some (.ref a))) H
def wEx (K : Frag) (Wout : WX) (D : Ends) : List (Value × (Addr → Value → Option Addr → TS)) → WX
  | [] => Wout
  | (c, ts) :: r => fun cls d σ H => ∃ b, PySem.W.exmOne K cls c = some b ∧ (b = true → ∀ a, H a = none → ts a cls d D σ H) ∧ (b = false → wEx K Wout D r cls d σ H)
inductive HdsX (X : Cx) : List ExceptHandler → List (Value × (Addr → Value → Option Addr → TS)) → Prop
  | nil : HdsX X [] []
  | cons {x : Str} {c : Value} {ts : Addr → Value → Option Addr → TS} {b₀ : Stmt} {suite : List Stmt} {np pos' : Pos} {hds : List ExceptHandler} {l : List (Value × (Addr → Value → Option Addr → TS))} (hc : Names X x c)
      (hsu : ∀ (a : Addr) (oe : Obj) (cls : Value) (d : Option Addr) (pn : List (Addr × Obj)), Zc cls d oe → (∃ vs, oe.data = .fields vs) → PSs (X.suite a ((a, oe) :: pn)) (b₀ :: suite) (ts a cls d)) (r : HdsX X hds l) :
      HdsX X (.ExceptHandler (some (.Name x np)) none (b₀ :: suite) pos' :: hds) ((c, ts) :: l)
  | as {x n : Str} {c : Value} {i : Nat} {ts : Addr → Value → Option Addr → TS} {b₀ : Stmt} {suite : List Stmt} {np pos' : Pos} {hds : List ExceptHandler} {l : List (Value × (Addr → Value → Option Addr → TS))} (hi : X.N[i]? = some n) (hln : X.env.kindOf n = some .local) (hc : Names X x c)
      (hsu : ∀ (a : Addr) (oe : Obj) (cls : Value) (d : Option Addr) (pn : List (Addr × Obj)), Zc cls d oe → (∃ vs, oe.data = .fields vs) → PSs (X.suite a ((a, oe) :: pn)) (b₀ :: suite) (ts a cls d)) (r : HdsX X hds l) :
      HdsX X (.ExceptHandler (some (.Name x np)) (some n) (b₀ :: suite) pos' :: hds) ((c, asTs i ts) :: l)
def tTry (K : Frag) (Wout : WX) (l : List (Value × (Addr → Value → Option Addr → TS))) (tb : WX → TS) : TS := fun D σ H => tb (wEx K Wout D l) D σ H
section
variable {X : Cx} {body : List Stmt} {h₀ : ExceptHandler} {hds : List ExceptHandler} {l : List (Value × (Addr → Value → Option Addr → TS))} {pos : Pos} {tb : WX → TS} {Wout : WX}
theorem ps_try_mix (hs : X.stack = X.env :: X.outer) (hf : X.env.frame = some X.env.locals) (hN : X.N.Nodup) (tk : Takes X Wout)
    (hb : ∀ (W : WX) (pn : List (Addr × Obj)) (xe : Value → Shared → Prop), Takes (X.tr pn xe) W → PassesOwn (model X.prog X.w) X.A X.env xe → PSs (X.tr pn xe) body (tb W))
    (hh : HdsX X (h₀ :: hds) l) : PS X (.Try body (h₀ :: hds) [] [] pos) (tTry X.K Wout l tb) := by
  refine ⟨fun pins s σ H D I h => ?_⟩
  have ok := I.ok
  have hfr : X.A.frames = some (X.env :: X.outer) := by rw [ok.frames, hs]
  refine wpAny_Try_except ?_
  refine wpAny_mono ((hb (wEx X.K Wout D l) (X.pn ++ pins) (fun e s₁ => wpAny (model X.prog X.w) X.A (noteFrame e X.env) (fun _ s₂ => wpAny (model X.prog X.w) X.A (setFlight e none) (fun _ s₃ =>
    wpAny (model X.prog X.w) X.A (handleBy e X.env (h₀ :: hds)) (SP X pins D) X.xe s₃) X.xe s₂) X.xe s₁) (fun u s' xx => ?_) PassesOwn.looking).run [] s σ H D (I.toTry _) h) (fun f s1 hsp => ?_) (fun e s1 he => he)
  · obtain ⟨a, B, sI, pins', σ', H', cls, d, rfl, J', nb, up, sky, na, os, ag, w⟩ := xx
    have J : Inv X pins σ' H' sI := J'.ofTry ok
    have sky' : Sky B (X.env :: X.outer) a (Zc cls d) X.env.locals s'.heap := by rw [← hs]; exact sky
    show wpAny (model X.prog X.w) X.A (noteFrame (.ref a) X.env) _ _ _
    refine Sky.land Zc.steady hfr hf sky' fun h3 fl3 up3 => ?_
    have J3 : Inv X pins σ' H' { s' with heap := h3 } := J.landed nb fl3.1 (up.trans up3) os ag
    obtain ⟨oe3, vs3, he3, hz3, hd3⟩ := fl3.there
    have notFr : ∀ {h : Heap} {o : Obj} {vs : Array Value}, h.FunFrames B (X.env :: X.outer) → h.get? a = some o → o.data = .fields vs → a ∉ frs (X.env :: X.outer) := fun {h o vs} ff e dd hm => by
      obtain ⟨_, o', e', hnf⟩ := ff.mem hm
      rw [e] at e'; cases e'
      exact hnf _ dd
    have nfr := notFr fl3.2.2.1 he3 hd3
    have nL : a ≠ X.env.locals := fun z => nfr (List.mem_filterMap.mpr ⟨X.env, List.mem_cons_self, by rw [hf, z]⟩)
    have nF : a ∉ X.fs := fun hm => by
      obtain ⟨e, he, q⟩ := List.mem_filterMap.mp hm
      exact nfr (List.mem_filterMap.mpr ⟨e, List.mem_cons_of_mem _ he, q⟩)
    have S3 := J3.suite he3 hd3 na nL nF
    have LT : PySem.W.Looks (model X.prog X.w) h3 (typeOf (.ref a)) cls := fun A Q E s k q => wpAny_typeOf_ref (k _ _ he3) (by rw [hz3.1]; exact q)
    have test : ∀ {x : Str} {c : Value} {np : Pos} {Q : Value → Shared → Prop} {E : Value → Shared → Prop}, Names X x c → Q c { s' with heap := h3 } → wpAny (model X.prog X.w) (X.A.mark (some (.ref a))) (eval (.Name x np) X.env) Q E { s' with heap := h3 } := fun {x c np Q E} hc q => by
      obtain ⟨hg, hdbg, hm | ⟨hm, hv, hnn⟩⟩ := hc
      · exact ld_glob (X := X.suite a ((a, oe3) :: (X.pn ++ pins))) S3 hg hm q hdbg
      · exact ld_blt (X := X.suite a ((a, oe3) :: (X.pn ++ pins))) S3 hg hm hv q hnn hdbg
    have go : ∀ {hds' : List ExceptHandler} {l' : List (Value × (Addr → Value → Option Addr → TS))}, HdsX X hds' l' → wEx X.K Wout D l' cls d σ' H' →
        wpAny (model X.prog X.w) X.A (handleBy (.ref a) X.env hds') (SP X pins D) X.xe { s' with heap := h3 } := by
      intro hds' l' hk
      induction hk with
      | nil =>
        intro w
        refine wpAny_handleBy_nil ?_
        obtain ⟨k1, k2, k3, oe, vs, T, oT, ts', he, hz, hd, h1, hr⟩ := id fl3
        unfold PySem.passOn
        refine wpAny_bind (wpAny_field he hd h1 ?_)
        rw [if_neg (show ¬ ((Value.ref T == Value.none) = true) from by simp)]
        have fin : wpAny (model X.prog X.w) X.A (setFlight (.ref a) X.env.frame) (fun _ s4 => wpAny (model X.prog X.w) X.A (throw (.ref a) : Sem Flow) (SP X pins D) X.xe s4) X.xe { s' with heap := h3 } := by
          rw [hf]
          refine HandSPX.setFlight_upZ fl3 fun h4 hh4 up4 => wpAny_throw (tk _ _ ?_)
          exact ⟨a, B, sI, pins, σ', H', cls, d, rfl, J, nb, (up.trans up3).trans up4, .inr (.inr (by rw [hs]; exact hh4)), na, os, ag, w⟩
        first
          | exact wpAny_bind (wpAny_pure (wpAny_bind fin))
          | exact wpAny_bind fin
      | @cons x c ts b₀ suite np pos' hds2 l2 hc hsu r ih =>
        intro w
        obtain ⟨b, hb1, hyes, hno⟩ := w
        refine wpAny_handleBy_cons (codeAny_handlers_test ?_) (by intro q; cases q)
        have LM := PySem.W.exm_one (M := model X.prog X.w) (J3.kIn) LT hb1
        refine test hc (LM.here ?_)
        cases b with
        | true =>
          refine codeAny_handlers_suite ?_
          refine HandSPX.lands_againZ fl3 fun h4 fl4 up4 => ?_
          have J4 : Inv X pins σ' H' { s' with heap := h4 } := J.landed nb fl4.1 ((up.trans up3).trans up4) os ag
          obtain ⟨oe4, vs4, he4, hz4, hd4⟩ := fl4.there
          have S4 := J4.suite he4 hd4 na nL nF
          refine wpAny_mono ((hsu a oe4 cls d (X.pn ++ pins) hz4 ⟨_, hd4⟩).run [] _ _ H' _ S4 (hyes rfl a na)) (fun f s6 hsp => ?_) (fun _ _ z => False.elim z)
          cases f with
          | next =>
            obtain ⟨σ6, H6, S6, q6⟩ := hsp
            exact ⟨_, _, S6.unsuite ok, q6⟩
          | brk =>
            obtain ⟨σ6, H6, S6, q6⟩ := hsp
            exact ⟨_, _, S6.unsuite ok, q6⟩
          | cont =>
            obtain ⟨σ6, H6, S6, q6⟩ := hsp
            exact ⟨_, _, S6.unsuite ok, q6⟩
          | ret u =>
            obtain ⟨v6, σ6, H6, S6, r6, q6⟩ := hsp
            exact ⟨_, _, _, S6.unsuite ok, r6, q6⟩
        | false =>
          show wpAny _ X.A (handleBy (.ref a) X.env hds2) _ _ _
          exact ih (hno rfl)
      | @as x n c i ts b₀ suite np pos' hds2 l2 hi hln hc hsu r ih =>
        intro w
        obtain ⟨b, hb1, hyes, hno⟩ := w
        have hloc : Loc X.env.scope n := .inl hln
        refine wpAny_handleBy_cons (codeAny_handlers_test ?_) (by intro q; cases q)
        have LM := PySem.W.exm_one (M := model X.prog X.w) (J3.kIn) LT hb1
        refine test hc (LM.here ?_)
        cases b with
        | true =>
          refine codeAny_handlers_suite_as ?_
          refine HandSPX.lands_againZ fl3 fun h4 fl4 up4 => ?_
          have J4 : Inv X pins σ' H' { s' with heap := h4 } := J.landed nb fl4.1 ((up.trans up3).trans up4) os ag
          obtain ⟨oe4, vs4, he4, hz4, hd4⟩ := fl4.there
          have S4 := J4.suite he4 hd4 na nL nF
          refine store_ok (X := X.suite a ((a, oe4) :: (X.pn ++ pins))) (v := .ref a) S4 hN hi hloc rfl (fun s5 S5 => ?_) (.inr hln)
          refine wpAny_mono ((hsu a oe4 cls d (X.pn ++ pins) hz4 ⟨_, hd4⟩).run [] s5 _ H' _ S5 (hyes rfl a na)) (fun f s6 hsp => ?_) (fun _ _ z => False.elim z)
          have end_ : ∀ {σ6 : L2.St} {H6 : Hp} {Q : Shared → Prop}, Inv (X.suite a ((a, oe4) :: (X.pn ++ pins))) [] σ6 H6 s6 → (∀ s7, Inv X pins (σ6.set i none) H6 s7 → Q s7) →
              wpAny (model X.prog X.w) X.A (do bindName X.env n .none; unbindBehindTheSuite X.env n pos') (fun _ s7 => Q s7) X.xe s6 := fun {σ6 H6 Q} S6 hq => gone_ok (S6.unsuite ok) hN hi hln hq
          cases f with
          | next =>
            obtain ⟨σ6, H6, S6, q6⟩ := hsp
            exact end_ S6 fun s7 J7 => ⟨_, _, J7, q6⟩
          | brk =>
            obtain ⟨σ6, H6, S6, q6⟩ := hsp
            exact end_ S6 fun s7 J7 => ⟨_, _, J7, q6⟩
          | cont =>
            obtain ⟨σ6, H6, S6, q6⟩ := hsp
            exact end_ S6 fun s7 J7 => ⟨_, _, J7, q6⟩
          | ret u =>
            obtain ⟨v6, σ6, H6, S6, r6, q6⟩ := hsp
            exact end_ S6 fun s7 J7 => ⟨_, _, _, J7, r6, q6⟩
        | false =>
          show wpAny _ X.A (handleBy (.ref a) X.env hds2) _ _ _
          exact ih (hno rfl)
    exact go hh w
  · cases f with
    | next =>
      obtain ⟨σ', H', J', q⟩ := hsp
      exact wpAny_execs_nil ⟨σ', H', J'.ofTry ok, q⟩
    | brk =>
      obtain ⟨σ', H', J', q⟩ := hsp
      exact ⟨σ', H', J'.ofTry ok, q⟩
    | cont =>
      obtain ⟨σ', H', J', q⟩ := hsp
      exact ⟨σ', H', J'.ofTry ok, q⟩
    | ret u =>
      obtain ⟨v, σ', H', J', r, q⟩ := hsp
      exact ⟨v, σ', H', J'.ofTry ok, r, q⟩
end
section
variable {K : Frag} {Wout : WX} {D : Ends} {l r : List (Value × (Addr → Value → Option Addr → TS))} {tb : WX → TS} {σ : L2.St} {H : Hp} {cls c : Value} {d : Option Addr} {ts : Addr → Value → Option Addr → TS}
theorem a_try (h : tb (wEx K Wout D l) D σ H) : tTry K Wout l tb D σ H := h
theorem a_exNo (e : PySem.W.exmOne K cls c = some false) (h : wEx K Wout D r cls d σ H) : wEx K Wout D ((c, ts) :: r) cls d σ H := ⟨false, e, fun z => Bool.noConfusion z, fun _ => h⟩
theorem a_exYes (e : PySem.W.exmOne K cls c = some true) (h : ∀ a, H a = none → ts a cls d D σ H) : wEx K Wout D ((c, ts) :: r) cls d σ H := ⟨true, e, fun _ => h, fun z => Bool.noConfusion z⟩
theorem a_as {a : Addr} {i : Nat} (h : ts a cls d { nx := fun σ' H' => D.nx (σ'.set i none) H', rt := D.rt, bk := fun σ' H' => D.bk (σ'.set i none) H', ct := fun σ' H' => D.ct (σ'.set i none) H' } (σ.set i (some (.ref a))) H) : asTs i ts a cls d D σ H := h
theorem a_xf {te : TE} {Q : VK} {a C : Addr} {f : Str} (h : te σ H fun x H1 => x = .ref a ∧ cls = .ref C ∧ ∃ (dd : Addr) (fs : List (Str × V)) (v : V), d = some dd ∧ H1 dd = some (.xd fs) ∧ fs.lookup f = some v ∧ Q v H1) : tXf a cls d C f te σ H Q := h
end
/-! ### calls of a value; calls within a try's body -/
section
variable {X : Cx} {CX : CXT} {k : Nat} {f C : Addr} {fd : FuncData} {ps : List Str} {sp : Sp} {dvs : List V} {ds : List Value} {E : L2.St → XK} {x m : Str} {p pos : Pos} {e fe : Expr} {es : List Expr} {ta : TE} {t : TA}
/-- the def that stands at f, with what it promises -/
structure HeldX (X : Cx) (CX : CXT) (k : Nat) (f : Addr) (sp : Sp) : Prop where
  ex : ∃ (fd : FuncData) (ps : List Str), FnOk X.prog X.w X.K X.mg X.base CX k f fd ps sp ∧ PySem.W.keepIn X.K (.ref f) = true ∧ Binds X.K fd ps []
theorem heldX (F : FnOk X.prog X.w X.K X.mg X.base CX k f fd ps sp) (hk : PySem.W.keepIn X.K (.ref f) = true) (hb : Binds X.K fd ps []) : HeldX X CX k f sp := ⟨fd, ps, F, hk, hb⟩
theorem HeldX.mono {j : Nat} (h : HeldX X CX j f sp) (jk : j ≤ k) : HeldX X CX k f sp := by
  obtain ⟨fd, ps, F, hk, hb⟩ := h.ex
  exact ⟨fd, ps, F.mono jk, hk, hb⟩
theorem passAt0 {E : XK} (σ : L2.St) : PassesAt CX0 X σ E := fun _ _ _ _ _ _ h => h.elim
theorem held_nil : ∀ q ∈ ([] : List (Addr × Sp)), HeldX X CX k q.1 q.2 := fun _ h => by simp at h
theorem held_cons {S : List (Addr × Sp)} (h : HeldX X CX k f sp) (t : ∀ q ∈ S, HeldX X CX k q.1 q.2) : ∀ q ∈ (f, sp) :: S, HeldX X CX k q.1 q.2 := fun q hq => by
  rcases List.mem_cons.mp hq with rfl | hq
  · exact h
  · exact t q hq
def tCallV (S : List (Addr × Sp)) (E : L2.St → XK) (tf : TE) (t : TA) : TE := fun σ H Q => tf σ H fun v H1 => ∃ f sp, v = .ref f ∧ (f, sp) ∈ S ∧ t σ H1 fun vs H2 => sp vs H2 Q (E σ)
theorem pe_callV {S : List (Addr × Sp)} {tf : TE} (A : ∀ q ∈ S, HeldX X CX k q.1 q.2) (hr : Room k X.A) (hx : ∀ σ, PassesAt CX X σ (E σ)) (hf : PE X fe tf) (ha : PA X (e :: es) t)
    (hc : eval (.Call fe (e :: es) [] pos) X.env = (do callWith pos (← eval fe X.env) [] (backTo pos (starEach (e :: es) X.env)) (backToKw pos (keywordEach [] X.env))) := by rfl)
    (he : starEach (e :: es) X.env = (false, eval e X.env) :: starEach es X.env := by rfl) (hpl : (backTo pos (starEach es X.env)).any (·.1) = false := by rfl) :
    PE X (.Call fe (e :: es) [] pos) (tCallV S E tf t) := by
  refine ⟨fun pins s σ H Q I h => ?_⟩
  rw [hc]
  refine wpAny_bind (thn (hf.run pins s σ H _ I h) fun u s1 ⟨v, H1, I1, r1, f, sp, ev, hS, q1⟩ => ?_)
  subst ev
  obtain rfl : u = Value.ref f := r1
  obtain ⟨fd, ps, F, hk, hb⟩ := (A _ hS).ex
  refine PySem.W.callWith_K (h₀ := X.base) I.ok.mod.kin hk (thn (ha.run pos pins s1 σ _ _ I1 q1) fun us s2 ⟨vs, H2, I2, r, q⟩ => ⟨I2.kIn, ?_⟩) he hpl
  exact run_fnS F hr hb (hx σ) I2 r q
theorem a_meth {C : Addr} {dvs : List V} {E : XK} {σ : L2.St} {H : Hp} {Q : VK} (h : ta σ H fun x H1 => ∃ a dx fs, x = .ref a ∧ H1 a = some (.ins C dx fs) ∧ fs.lookup m = none ∧ t σ H1 fun vs H2 => sp (x :: (vs ++ dvs)) H2 Q E) : tMeth C m sp dvs E ta t σ H Q := h
theorem a_callV {S : List (Addr × Sp)} {tf : TE} {σ : L2.St} {H : Hp} {Q : VK} (h : tf σ H fun v H1 => ∃ f sp, v = .ref f ∧ (f, sp) ∈ S ∧ t σ H1 fun vs H2 => sp vs H2 Q (E σ)) : tCallV S E tf t σ H Q := h
theorem a_callS {σ : L2.St} {H : Hp} {Q : VK} (h : t σ H fun vs H1 => sp vs H1 Q (E σ)) : tCallS sp E t σ H Q := h
/-- an own instance made within a try's body -/
def tMakeS (C : Addr) (sp : Sp) (dvs : List V) (E : L2.St → XK) (t : TA) : TE := fun σ H Q => t σ H fun vs H1 => ∀ x dx, H1 x = none → H1 dx = none → dx ≠ x →
  sp (.ref x :: (vs ++ dvs)) (upd (upd H1 dx (.own x)) x (.ins C dx [])) (fun v H2 => v = .non ∧ Q (.ref x) H2) (E σ)
theorem run_makeS {pins : List (Addr × Obj)} {σ : L2.St} {H : Hp} {s : Shared} {Q : VK} {us : List Value} {vs : List V} (M : Mk X.K C f) (F : FnOk X.prog X.w X.K X.mg X.base CX k f fd ps sp) (hr : Room (k + 1) X.A) (hb : Binds X.K fd ps ds) (hd : Vals dvs ds)
    (hx : PassesAt CX X σ (E σ)) (I : Inv X pins σ H s) (r : Vals vs us)
    (h : ∀ x dx, H x = none → H dx = none → dx ≠ x → sp (.ref x :: (vs ++ dvs)) (upd (upd H dx (.own x)) x (.ins C dx [])) (fun v H2 => v = .non ∧ Q (.ref x) H2) (E σ)) :
    wpAny (model X.prog X.w) X.A (call (.ref C) us) (EP X pins σ Q) X.xe s := by
  have hq := h (s.heap.objs.size + 1) s.heap.objs.size (I.hok.fresh (Nat.le_succ _)) (I.hok.fresh (Nat.le_refl _)) (Nat.ne_of_lt (Nat.lt_succ_self _))
  have I2 := Inv.made (C := C) I
  have r2 : Vals (V.ref (s.heap.objs.size + 1) :: (vs ++ dvs)) (Value.ref (s.heap.objs.size + 1) :: (us ++ ds)) := .cons rfl (r.append hd)
  have hl : (Value.ref (s.heap.objs.size + 1) :: us ++ ds).length = ps.length := by
    have e := r2.length
    rw [F.len _ _ _ _ hq] at e
    exact e.symm
  refine wpAny_call (make_map (f := f) I.kIn M.makes M.init (beq_iff_eq.mp M.fn) (codeAny_mono (F.run _ X.stack _ _ ⟨Value.ref (s.heap.objs.size + 1) :: us, []⟩ (Value.ref (s.heap.objs.size + 1) :: (us ++ ds)) _ _ (E σ) (hr.make C us [])
    (I2.env0.make C us []) (hb _ (Value.ref (s.heap.objs.size + 1) :: us) I2.kIn hl) r2 hq) fun r s' hq' => ?_))
  cases r with
  | error e => exact hx pins _ _ e s' I2 hq'
  | ok fl =>
    cases fl with
    | ret u =>
      obtain ⟨v, H', I3, rv, ev, q3⟩ := I2.after hq'
      subst ev
      exact ⟨rv, ⟨V.ref (s.heap.objs.size + 1), H', I3, rfl, q3⟩⟩
    | next => exact False.elim hq'
    | brk => exact False.elim hq'
    | cont => exact False.elim hq'
theorem pe_makeS (M : Mk X.K C f) (F : FnOk X.prog X.w X.K X.mg X.base CX k f fd ps sp) (hr : Room (k + 1) X.A) (hg : Gl X x) (hm : X.mg x = some (.ref C)) (hb : Binds X.K fd ps ds) (hd : Vals dvs ds) (hx : ∀ σ, PassesAt CX X σ (E σ))
    (ha : PA X (e :: es) t) (hdb : (x == ("__debug__" : Str)) = false := by decide) (he : starEach (e :: es) X.env = (false, eval e X.env) :: starEach es X.env := by rfl) (hpl : (backTo pos (starEach es X.env)).any (·.1) = false := by rfl) :
    PE X (.Call (.Name x p) (e :: es) [] pos) (tMakeS C sp dvs E t) := by
  refine ⟨fun pins s σ H Q I h => ?_⟩
  refine wpAny_Call_Name_kw (ld_glob I hg hm ?_ hdb)
  refine PySem.W.callWith_K (h₀ := X.base) I.ok.mod.kin M.kp (thn (ha.run pos pins s σ H _ I h) fun us s1 ⟨vs, H1, I1, r, q⟩ => ⟨I1.kIn, ?_⟩) he hpl
  exact run_makeS M F hr hb hd (hx σ) I1 r q
theorem a_makeS {σ : L2.St} {H : Hp} {Q : VK} (h : t σ H fun vs H1 => ∀ x dx, H1 x = none → H1 dx = none → dx ≠ x → sp (.ref x :: (vs ++ dvs)) (upd (upd H1 dx (.own x)) x (.ins C dx [])) (fun v H2 => v = .non ∧ Q (.ref x) H2) (E σ)) : tMakeS C sp dvs E t σ H Q := h
end
end R
namespace R
open PySem PySem.Spec PyProof.Rows L2
/-- what is not reached -/
theorem pe_never {X : Cx} {e : Expr} : PE X e (fun _ _ _ => False) := ⟨fun _ _ _ _ _ _ h => h.elim⟩
theorem pt_never {X : Cx} {e : Expr} : PT X e (fun _ _ _ => False) := ⟨fun _ _ _ _ _ _ h => h.elim⟩
end R

/-! ## values of any kind -/
namespace R
open PySem PySem.Spec PyProof.Rows L2
open PySem.W (Frag)
inductive Odd (K : Frag) (H : Hp) : V → Prop
  | non : Odd K H .non
  | bl (b : Bool) : Odd K H (.bl b)
  | str (z : Str) : Odd K H (.str z)
  | lst {a : Addr} {xs : List V} (h : H a = some (.lst xs)) : Odd K H (.ref a)
  | tup {a : Addr} {xs : List V} (h : H a = some (.tup xs)) : Odd K H (.ref a)
  | dK {a : Addr} {kvs : List (Key × V)} (h : H a = some (.dK kvs)) : Odd K H (.ref a)
theorem Odd.same {K : Frag} {B H : Hp} {v : V} (s : Same B H) (h : Odd K B v) : Odd K H v := by
  cases h with
  | non => exact .non
  | bl b => exact .bl b
  | str z => exact .str z
  | lst h => exact .lst (s _ _ h)
  | tup h => exact .tup (s _ _ h)
  | dK h => exact .dK (s _ _ h)
/-- no int of the stretch -/
def OutR (K : Frag) (H : Hp) (v : V) (lo hi : Int) : Prop := Odd K H v ∨ ∃ i, v = .int i ∧ ¬ (lo ≤ i ∧ i ≤ hi)
theorem OutR.same {K : Frag} {B H : Hp} {v : V} {lo hi : Int} (s : Same B H) (h : OutR K B v lo hi) : OutR K H v lo hi := h.imp (·.same s) id
theorem OutR.int {K : Frag} {H : Hp} {i lo hi : Int} (h : i < lo ∨ hi < i) : OutR K H (.int i) lo hi := .inr ⟨i, rfl, by omega⟩
section
variable {K : Frag} {H : Hp} {v : V} {Q : VK}
theorem a_isiO (h : Odd K H v) (hb : ∀ b, v ≠ .bl b) (q : Q (.bl false) H) : rIsi K [v, .ty "int"] H Q := by
  cases h with
  | non => exact ⟨_, _, .type "NoneType", .type "int", false, rfl, .ty _, .base .non, kit_ty (by decide +kernel), q⟩
  | bl b => exact absurd rfl (hb b)
  | str z => exact ⟨_, _, .type "str", .type "int", false, rfl, .ty _, .base (.str z), kit_ty (by decide +kernel), q⟩
  | lst h => exact ⟨_, _, .type "list", .type "int", false, rfl, .ty _, .base (.lst h), kit_ty (by decide +kernel), q⟩
  | tup h => exact ⟨_, _, .type "tuple", .type "int", false, rfl, .ty _, .base (.tup h), kit_ty (by decide +kernel), q⟩
  | dK h => exact ⟨_, _, .type "dict", .type "int", false, rfl, .ty _, .base (.dK h), kit_ty (by decide +kernel), q⟩
theorem a_isiBI {b : Bool} (q : Q (.bl true) H) : rIsi K [.bl b, .ty "int"] H Q := ⟨_, _, .type "bool", .type "int", true, rfl, .ty _, .base (.bl b), kit_ty (by decide +kernel), q⟩
theorem a_isiBB {b : Bool} (q : Q (.bl true) H) : rIsi K [.bl b, .ty "bool"] H Q := ⟨_, _, .type "bool", .type "bool", true, rfl, .ty _, .base (.bl b), kit_ty (by decide +kernel), q⟩
end
end R
namespace R
open PySem PySem.Spec PyProof.Rows L2
open PySem.W (Frag)
/-- a flat value that is no int of the stretch, as data too -/
structure BadV (K : Frag) (lo hi : Int) (v : V) : Prop where
  out : ∀ H, OutR K H v lo hi
  flat : ∃ d : PyData, d.canLay0 = true ∧ d.depth ≤ 1 ∧ ∀ H, Dp K H v d
section
variable {K : Frag} {lo hi : Int} {v : V} {H : Hp} {Q : VK} {p q : Addr}
theorem BadV.non : BadV K lo hi .non := ⟨fun _ => .inl .non, .none, rfl, Nat.zero_le _, fun _ => .non⟩
theorem BadV.bl {b : Bool} : BadV K lo hi (.bl b) := ⟨fun _ => .inl (.bl b), .bool b, rfl, Nat.zero_le _, fun _ => .bl b⟩
theorem BadV.str {z : Str} (h : (PyData.str z).canLay0 = true) : BadV K lo hi (.str z) := ⟨fun _ => .inl (.str z), .str z, h, Nat.zero_le _, fun _ => .str z⟩
theorem BadV.int {i : Int} (h : i < lo ∨ hi < i) : BadV K lo hi (.int i) := ⟨fun _ => .int h, .int i, rfl, Nat.zero_le _, fun _ => .int i⟩
/-- [v] != [v] -/
theorem a_neOne (hv : ∃ d : PyData, d.canLay0 = true ∧ d.depth ≤ 1 ∧ ∀ H, Dp K H v d) (hp : SqL K H p [v]) (hq : SqL K H q [v]) (h : Q (.bl false) H) : rNeD K (.ref p) (.ref q) H Q := by
  obtain ⟨d, d1, d2, d3⟩ := hv
  refine a_neD (d := .list [d]) (.lst hp (.cons (d3 H) .nil)) (.lst hq (.cons (d3 H) .nil)) ?_ ?_ h
  · show (d.canLay0 && true) = true
    rw [d1]; rfl
  · show max d.depth 0 + 1 ≤ 64
    omega
theorem a_neS1 {z : Str} (h : Q (.bl false) H) : rNe (.str z) (.str z) H Q := ⟨rfl, by rw [decide_eq_true rfl]; exact h⟩
end
end R
namespace R
open PySem PySem.Spec PyProof.Rows L2
open PySem.W (Frag)
def isTy : Value → Bool
  | .type _ => true
  | _ => false
theorem kit_no {K : Frag} {C : Addr} {t : String} (hc : ((PySem.W.clsIn K C).isSome && PySem.W.typeIn K (.ref C) == some (.type "type")) = true) (hm : (PySem.fastBuiltinMro t).map (·.all isTy) = some true) : PySem.W.kitOne K (.type t) (.ref C) = some false := by
  obtain ⟨l, h1, h2⟩ := Option.map_eq_some_iff.mp hm
  have z : l.contains (Value.ref C) = false := by
    cases e : l.contains (Value.ref C) with
    | false => rfl
    | true =>
      have m : Value.ref C ∈ l := by simpa using e
      have y := List.all_eq_true.mp h2 _ m
      cases y
  show (if (Value.type t == Value.ref C) = true then some true else PySem.W.kitCls K (.type t) (.ref C)) = some false
  rw [if_neg (by intro y; rw [beq_iff_eq] at y; cases y)]
  show (if _ = true then (PySem.fastBuiltinMro t).map (·.contains (.ref C)) else none) = some false
  rw [if_pos hc, h1]
  show some (l.contains (Value.ref C)) = some false
  rw [z]
/-- no instance of an own class -/
def NoI (K : Frag) (H : Hp) (v : V) : Prop := Odd K H v ∨ ∃ i, v = .int i
theorem NoI.same {K : Frag} {B H : Hp} {v : V} (s : Same B H) (h : NoI K B v) : NoI K H v := h.imp (·.same s) id
theorem a_isiC {K : Frag} {H : Hp} {v : V} {Q : VK} {C : Addr} (hc : ((PySem.W.clsIn K C).isSome && PySem.W.typeIn K (.ref C) == some (.type "type")) = true) (h : NoI K H v) (q : Q (.bl false) H) : rIsi K [v, .ref C] H Q := by
  rcases h with h | ⟨i, rfl⟩
  · cases h with
    | non => exact ⟨_, _, .type "NoneType", .ref C, false, rfl, .own _, .base .non, kit_no hc (by decide +kernel), q⟩
    | bl b => exact ⟨_, _, .type "bool", .ref C, false, rfl, .own _, .base (.bl b), kit_no hc (by decide +kernel), q⟩
    | str z => exact ⟨_, _, .type "str", .ref C, false, rfl, .own _, .base (.str z), kit_no hc (by decide +kernel), q⟩
    | lst h => exact ⟨_, _, .type "list", .ref C, false, rfl, .own _, .base (.lst h), kit_no hc (by decide +kernel), q⟩
    | tup h => exact ⟨_, _, .type "tuple", .ref C, false, rfl, .own _, .base (.tup h), kit_no hc (by decide +kernel), q⟩
    | dK h => exact ⟨_, _, .type "dict", .ref C, false, rfl, .own _, .base (.dK h), kit_no hc (by decide +kernel), q⟩
  · exact ⟨_, _, .type "int", .ref C, false, rfl, .own _, .base (.int i), kit_no hc (by decide +kernel), q⟩
end R
namespace R
open PySem PySem.Spec PyProof.Rows L2
open PySem.W (Frag)
section
variable {K : Frag} {v : V} {H : Hp} {Q : VK} {p q : Addr}
/-- [v] == [v] -/
theorem a_eqOne (hv : ∃ d : PyData, d.canLay0 = true ∧ d.depth ≤ 1 ∧ ∀ H, Dp K H v d) (hp : SqL K H p [v]) (hq : SqL K H q [v]) (h : Q (.bl true) H) : rEqD K (.ref p) (.ref q) H Q := by
  obtain ⟨d, d1, d2, d3⟩ := hv
  refine a_eqD (d := .list [d]) (.lst hp (.cons (d3 H) .nil)) (.lst hq (.cons (d3 H) .nil)) ?_ ?_ h
  · show (d.canLay0 && true) = true
    rw [d1]; rfl
  · show max d.depth 0 + 1 ≤ 64
    omega
theorem a_eqS1 {z : Str} (h : Q (.bl true) H) : rEq (.str z) (.str z) H Q := ⟨rfl, by rw [decide_eq_true rfl]; exact h⟩
end
end R

/-! ## lists with the very same items; what a call lays goes into the base -/
namespace R
open PySem PySem.Spec PyProof.Rows L2
open PySem.W (Frag)
def SameIt (v : V) : Prop := flatB v = true ∨ ∃ a, v = .ref a
def rNeS (K : Frag) : R2 := fun x y H Q => ∃ a b xs, x = .ref a ∧ y = .ref b ∧ SqL K H a xs ∧ SqL K H b xs ∧ (∀ v ∈ xs, SameIt v) ∧ Q (.bl false) H
def rEqS (K : Frag) : R2 := fun x y H Q => ∃ a b xs, x = .ref a ∧ y = .ref b ∧ SqL K H a xs ∧ SqL K H b xs ∧ (∀ v ∈ xs, SameIt v) ∧ Q (.bl true) H
section
variable {X : Cx}
theorem sameIt_run {P : Program} {w : World} {A : Around} {s : Shared} : ∀ {xs : List V} {us ws : List Value}, (∀ v ∈ xs, SameIt v) → Vals xs us → Vals xs ws → ∀ j (h1 : j < us.length) (h2 : j < ws.length), SeqAt.EqAt A s us[j] ws[j] true := by
  intro xs us ws hf r1
  induction r1 generalizing ws with
  | nil =>
    intro _ j h1
    exact absurd h1 (Nat.not_lt_zero j)
  | cons a1 b1 ih =>
    intro r2 j h1 h2
    cases r2 with
    | cons a2 b2 =>
      cases j with
      | zero =>
        rcases hf _ List.mem_cons_self with f | ⟨a, rfl⟩
        · exact eqAt_same a1 a2 f
        · cases a1
          cases a2
          exact SeqAt.EqAt.same _
      | succ j => exact ih (fun v hv => hf v (List.mem_cons_of_mem _ hv)) b2 j (Nat.lt_of_succ_lt_succ h1) (Nat.lt_of_succ_lt_succ h2)
theorem op_neS (hu : X.A.units + 64 < cLine) : OpR X (compareOp .NotEq) (rNeS X.K) := by
  intro pins s σ H x y v u Q I rx ry h
  obtain ⟨a, b, xs, rfl, rfl, ha, hb, hf, q⟩ := h
  cases (show v = Value.ref a from rx)
  cases (show u = Value.ref b from ry)
  obtain ⟨us, r1, p1, _⟩ := I.list ha
  obtain ⟨ws, r2, p2, _⟩ := I.list hb
  have hsz : us.toArray.size = ws.toArray.size := by rw [List.size_toArray, List.size_toArray, ← r1.length, ← r2.length]
  show wpAny (model X.prog X.w) X.A (richCompare .NotEq (.ref a) (.ref b)) (EP X pins σ Q) X.xe s
  refine SeqAt.RcNeAt.lists (e := fun _ => true) p1.isList p2.isList hsz (by omega) (fun j h1 h2 => ?_) _ _ _ _ ?_
  · have k := sameIt_run (P := X.prog) (w := X.w) (A := X.A.in1) (s := s) hf r1 r2 j (by simpa using h1) (by simpa using h2)
    simpa using k
  · rw [show ((List.range us.toArray.size).all fun _ => true) = true from List.all_eq_true.mpr fun _ _ => rfl]
    exact ⟨.bl false, H, I, rfl, q⟩
theorem op_eqS (hu : X.A.units + 64 < cLine) : OpR X (compareOp .Eq) (rEqS X.K) := by
  intro pins s σ H x y v u Q I rx ry h
  obtain ⟨a, b, xs, rfl, rfl, ha, hb, hf, q⟩ := h
  cases (show v = Value.ref a from rx)
  cases (show u = Value.ref b from ry)
  obtain ⟨us, r1, p1, _⟩ := I.list ha
  obtain ⟨ws, r2, p2, _⟩ := I.list hb
  have hsz : us.toArray.size = ws.toArray.size := by rw [List.size_toArray, List.size_toArray, ← r1.length, ← r2.length]
  show wpAny (model X.prog X.w) X.A (richCompare .Eq (.ref a) (.ref b)) (EP X pins σ Q) X.xe s
  refine SeqAt.rcP_lists (e := fun _ => true) p1.isList p2.isList hsz (by omega) (fun j h1 h2 => ?_) _ _ ?_
  · have k := sameIt_run (P := X.prog) (w := X.w) (A := X.A.in1) (s := s) hf r1 r2 j (by simpa using h1) (by simpa using h2)
    exact (by simpa using k : SeqAt.EqAt X.A.in1 s us.toArray[j] ws.toArray[j] true).eqP
  · rw [show ((List.range us.toArray.size).all fun _ => true) = true from List.all_eq_true.mpr fun _ _ => rfl]
    exact ⟨.bl true, H, I, rfl, q⟩
end
section
variable {K : Frag} {v : V} {H : Hp} {Q : VK} {p q : Addr}
theorem a_neS1' (hv : SameIt v) (hp : SqL K H p [v]) (hq : SqL K H q [v]) (h : Q (.bl false) H) : rNeS K (.ref p) (.ref q) H Q := ⟨p, q, [v], rfl, rfl, hp, hq, fun x hx => by rw [List.mem_singleton.mp hx]; exact hv, h⟩
theorem a_eqS1' (hv : SameIt v) (hp : SqL K H p [v]) (hq : SqL K H q [v]) (h : Q (.bl true) H) : rEqS K (.ref p) (.ref q) H Q := ⟨p, q, [v], rfl, rfl, hp, hq, fun x hx => by rw [List.mem_singleton.mp hx]; exact hv, h⟩
theorem OutR.sameIt {lo hi : Int} (h : OutR K H v lo hi) : SameIt v := by
  rcases h with h | ⟨i, rfl, _⟩
  · cases h with
    | non => exact .inl rfl
    | bl b => exact .inl rfl
    | str z => exact .inl rfl
    | lst h => exact .inr ⟨_, rfl⟩
    | tup h => exact .inr ⟨_, rfl⟩
    | dK h => exact .inr ⟨_, rfl⟩
  · exact .inl rfl
theorem BadV.sameIt {lo hi : Int} (h : BadV K lo hi v) : SameIt v := (h.out (fun _ => none)).sameIt
end
/-- what was laid by a call that changed an owned thing alone goes into the base -/
theorem Own.base {B H H' : Hp} {Lw : List (Addr × HO)} {row : Addr} {o o' : HO} (O : Own B Lw H) (i : Nat) (hi : Lw[i]? = some (row, o)) (k : ∀ b v, b ≠ row → H b = some v → H' b = some v) (hr : H' row = some o') :
    ∃ B', Same B B' ∧ Own B' (Lw.set i (row, o')) H' ∧ ∀ a u, H a = none → H' a = some u → B' a = some u := by
  have hmem : (row, o) ∈ Lw := List.mem_of_getElem? hi
  refine ⟨fun a => if a ∈ Lw.map (·.1) then none else H' a, fun a u e => ?_, ⟨fun a u e => ?_, fun q hq => ?_, fun q hq => ?_, ?_⟩, fun a u h1 h2 => ?_⟩
  · have n : a ∉ Lw.map (·.1) := fun z => by
      obtain ⟨q, hq, rfl⟩ := List.mem_map.mp z
      rw [O.no q hq] at e; cases e
    show (if a ∈ Lw.map (·.1) then none else H' a) = some u
    rw [if_neg n]
    exact k a u (fun z => n (List.mem_map.mpr ⟨_, hmem, z.symm⟩)) (O.st _ _ e)
  · have e : (if a ∈ Lw.map (·.1) then none else H' a) = some u := e
    split at e
    · cases e
    · exact e
  · rcases mem_set1 O.nd hi hq with rfl | ⟨h1, h2⟩
    · exact hr
    · exact k _ _ h2 (O.ow q h1)
  · have m : q.1 ∈ Lw.map (·.1) := by
      rw [← set_map1 hi (o' := o')]
      exact List.mem_map.mpr ⟨q, hq, rfl⟩
    show (if q.1 ∈ Lw.map (·.1) then none else H' q.1) = none
    rw [if_pos m]
  · rw [set_map1 hi]; exact O.nd
  · have n : a ∉ Lw.map (·.1) := fun z => by
      obtain ⟨q, hq, rfl⟩ := List.mem_map.mp z
      rw [O.ow q hq] at h1; cases h1
    show (if a ∈ Lw.map (·.1) then none else H' a) = some u
    rw [if_neg n]
    exact h2
end R
namespace R
open PySem PySem.Spec PyProof.Rows L2
open PySem.W (Frag)
section
variable {K : Frag} {B H : Hp} {Lw : List (Addr × HO)} {a p q : Addr} {xs : List V} {lo hi : Option Int} {Q : VK} {w : V}
theorem a_neSL (hv : ∀ v ∈ xs, SameIt v) (hp : SqL K H p xs) (hq : SqL K H q xs) (h : Q (.bl false) H) : rNeS K (.ref p) (.ref q) H Q := ⟨p, q, xs, rfl, rfl, hp, hq, hv, h⟩
theorem cutV_to (xs : List V) (k : Nat) : cutV xs none (some (k : Int)) = xs.take k := by
  unfold cutV
  rw [HT.sIx_none, HT.sIx_nat, List.drop_zero, Nat.sub_zero]
  by_cases c : k ≤ xs.length
  · rw [Nat.min_eq_left c]
  · rw [Nat.min_eq_right (by omega), List.take_of_length_le (by omega), List.take_of_length_le (by omega)]
theorem cutV_from (xs : List V) (k : Nat) : cutV xs (some (k : Int)) none = xs.drop k := by
  unfold cutV
  rw [HT.sIx_none, HT.sIx_nat]
  by_cases c : k ≤ xs.length
  · rw [Nat.min_eq_left c]
    exact List.take_of_length_le (by rw [List.length_drop]; omega)
  · rw [Nat.min_eq_right (by omega), List.drop_of_length_le (by omega), List.drop_of_length_le (by omega), List.take_nil]
/-- a tuple's slice; the outcome stands in the base -/
theorem a_slA (O : Own B Lw H) (ha : B a = some (.tup xs)) (c : ∀ r B' H', Same B B' → Own B' Lw H' → B' r = some (.tup (cutV xs lo hi)) → Q (.ref r) H') : rSlA K (.ref a) lo hi H Q := by
  refine ⟨a, xs, rfl, SqT.of (O.st _ _ ha), fun e => ?_, fun _ p hp => ?_⟩
  · have z : cutV xs lo hi = xs := by
      unfold cutV
      rw [e.1, e.2, List.drop_zero, Nat.sub_zero, List.take_length]
    exact c a B H (Same.refl B) O (by rw [z]; exact ha)
  · have O2 := Own.new (o := .tup (cutV xs lo hi)) O hp
    exact c p _ _ O2.fixS O2.fix upd_same
end
/-- w stands at place n, good ones ahead of it -/
def WrongAt (xs : List V) (n : Nat) (w : V) (G : V → Prop) : Prop := xs[n]? = some w ∧ ∀ (i : Nat) (x : V), i < n → xs[i]? = some x → G x
theorem wrongAt_put {ms : List Int} {n : Nat} {w : V} {G : V → Prop} {tl : List V} (hn : n ≤ ms.length) (hg : ∀ m ∈ ms, G (.int m)) : WrongAt ((ms.map V.int).take n ++ [w] ++ tl) n w G := by
  have l : ((ms.map V.int).take n).length = n := by rw [List.length_take, List.length_map]; omega
  refine ⟨?_, fun i x hi hx => ?_⟩
  · rw [List.append_assoc, List.getElem?_append_right (by omega), l, Nat.sub_self]; rfl
  · rw [List.append_assoc, List.getElem?_append_left (by omega), List.getElem?_take, if_pos hi, List.getElem?_map] at hx
    obtain ⟨m, hm, rfl⟩ := Option.map_eq_some_iff.mp hx
    exact hg m (List.mem_of_getElem? hm)
/-- not a tuple -/
inductive NotTup (K : Frag) (H : Hp) : V → Prop
  | non : NotTup K H .non
  | bl (b : Bool) : NotTup K H (.bl b)
  | str (z : Str) : NotTup K H (.str z)
  | int (i : Int) : NotTup K H (.int i)
  | lst {a : Addr} {xs : List V} (h : H a = some (.lst xs)) : NotTup K H (.ref a)
  | dK {a : Addr} {kvs : List (Key × V)} (h : H a = some (.dK kvs)) : NotTup K H (.ref a)
theorem NotTup.same {K : Frag} {B H : Hp} {v : V} (s : Same B H) (h : NotTup K B v) : NotTup K H v := by
  cases h with
  | non => exact .non
  | bl b => exact .bl b
  | str z => exact .str z
  | int i => exact .int i
  | lst h => exact .lst (s _ _ h)
  | dK h => exact .dK (s _ _ h)
section
variable {K : Frag} {H : Hp} {v : V} {Q : VK} {p : Addr} {xs : List V}
theorem a_isiNT (h : NotTup K H v) (q : Q (.bl false) H) : rIsi K [v, .ty "tuple"] H Q := by
  cases h with
  | non => exact ⟨_, _, .type "NoneType", .type "tuple", false, rfl, .ty _, .base .non, kit_ty (by decide +kernel), q⟩
  | bl b => exact ⟨_, _, .type "bool", .type "tuple", false, rfl, .ty _, .base (.bl b), kit_ty (by decide +kernel), q⟩
  | str z => exact ⟨_, _, .type "str", .type "tuple", false, rfl, .ty _, .base (.str z), kit_ty (by decide +kernel), q⟩
  | int i => exact ⟨_, _, .type "int", .type "tuple", false, rfl, .ty _, .base (.int i), kit_ty (by decide +kernel), q⟩
  | lst h => exact ⟨_, _, .type "list", .type "tuple", false, rfl, .ty _, .base (.lst h), kit_ty (by decide +kernel), q⟩
  | dK h => exact ⟨_, _, .type "dict", .type "tuple", false, rfl, .ty _, .base (.dK h), kit_ty (by decide +kernel), q⟩
theorem a_isiT1 (h : H p = some (.tup xs)) (q : Q (.bl true) H) : rIsi K [.ref p, .ty "tuple"] H Q := ⟨_, _, .type "tuple", .type "tuple", true, rfl, .ty _, .base (.tup h), kit_ty (by decide +kernel), q⟩
end
/-- no tuple of so many things -/
def NoTup (K : Frag) (H : Hp) (v : V) (lo hi : Nat) : Prop := NotTup K H v ∨ ∃ p xs, v = .ref p ∧ H p = some (.tup xs) ∧ ¬ (lo ≤ xs.length ∧ xs.length ≤ hi)
theorem NoTup.same {K : Frag} {B H : Hp} {v : V} {lo hi : Nat} (s : Same B H) (h : NoTup K B v lo hi) : NoTup K H v lo hi := by
  rcases h with h | ⟨p, xs, e, h, n⟩
  · exact .inl (h.same s)
  · exact .inr ⟨p, xs, e, s _ _ h, n⟩
end R

/-! ## rows of things: lists or tuples of any things -/
namespace R
open PySem PySem.Spec PyProof.Rows L2
open PySem.W (Frag)
/-- no list, no tuple -/
inductive NotSeq (K : Frag) (H : Hp) : V → Prop
  | non : NotSeq K H .non
  | bl (b : Bool) : NotSeq K H (.bl b)
  | str (z : Str) : NotSeq K H (.str z)
  | int (i : Int) : NotSeq K H (.int i)
  | dK {a : Addr} {kvs : List (Key × V)} (h : H a = some (.dK kvs)) : NotSeq K H (.ref a)
  | ins {a C dx : Addr} {fs : List (Str × V)} (h : H a = some (.ins C dx fs)) (I : C8.InsC K C) (hc : ((PySem.W.clsIn K C).isSome && PySem.W.typeIn K (.ref C) == some (.type "type")) = true) (h1 : PySem.W.subIn K (.ref C) (.type "list") = some false) (h2 : PySem.W.subIn K (.ref C) (.type "tuple") = some false) : NotSeq K H (.ref a)
theorem NotSeq.same {K : Frag} {B H : Hp} {v : V} (s : Same B H) (h : NotSeq K B v) : NotSeq K H v := by
  cases h with
  | non => exact .non
  | bl b => exact .bl b
  | str z => exact .str z
  | int i => exact .int i
  | dK h => exact .dK (s _ _ h)
  | ins h I hc h1 h2 => exact .ins (s _ _ h) I hc h1 h2
theorem kit_sub {K : Frag} {C : Addr} {t : String} (h : PySem.W.subIn K (.ref C) (.type t) = some false) (hm : PySem.W.kitMeta t = true := by decide +kernel) : PySem.W.kitOne K (.ref C) (.type t) = some false := by
  show (if (Value.ref C == Value.type t) = true then some true else PySem.W.kitCls K (.ref C) (.type t)) = some false
  rw [if_neg (by intro y; rw [beq_iff_eq] at y; cases y)]
  show (if PySem.W.kitMeta t = true then PySem.W.subIn K (.ref C) (.type t) else none) = some false
  rw [if_pos hm]; exact h
section
variable {K : Frag} {H : Hp} {v : V} {Q : VK} {tp : Addr}
theorem a_isiN2 (h : NotSeq K H v) (ht : H tp = some (.tup [.ty "list", .ty "tuple"])) (q : Q (.bl false) H) : rIsiT K [v, .ref tp] H Q := by
  cases h with
  | non => exact ⟨_, tp, _, .type "NoneType", [.type "list", .type "tuple"], false, rfl, ht, .cons (.ty _) (.cons (.ty _) .nil), .base .non, kitAny_cons (b := false) (kit_ty (by decide +kernel)) (fun _ => kitAny_cons (b := false) (kit_ty (by decide +kernel)) (fun _ => rfl) (fun z => by cases z)) (fun z => by cases z), q⟩
  | bl b => exact ⟨_, tp, _, .type "bool", [.type "list", .type "tuple"], false, rfl, ht, .cons (.ty _) (.cons (.ty _) .nil), .base (.bl b), kitAny_cons (b := false) (kit_ty (by decide +kernel)) (fun _ => kitAny_cons (b := false) (kit_ty (by decide +kernel)) (fun _ => rfl) (fun z => by cases z)) (fun z => by cases z), q⟩
  | str z => exact ⟨_, tp, _, .type "str", [.type "list", .type "tuple"], false, rfl, ht, .cons (.ty _) (.cons (.ty _) .nil), .base (.str z), kitAny_cons (b := false) (kit_ty (by decide +kernel)) (fun _ => kitAny_cons (b := false) (kit_ty (by decide +kernel)) (fun _ => rfl) (fun z => by cases z)) (fun z => by cases z), q⟩
  | int i => exact ⟨_, tp, _, .type "int", [.type "list", .type "tuple"], false, rfl, ht, .cons (.ty _) (.cons (.ty _) .nil), .base (.int i), kitAny_cons (b := false) (kit_ty (by decide +kernel)) (fun _ => kitAny_cons (b := false) (kit_ty (by decide +kernel)) (fun _ => rfl) (fun z => by cases z)) (fun z => by cases z), q⟩
  | dK h => exact ⟨_, tp, _, .type "dict", [.type "list", .type "tuple"], false, rfl, ht, .cons (.ty _) (.cons (.ty _) .nil), .base (.dK h), kitAny_cons (b := false) (kit_ty (by decide +kernel)) (fun _ => kitAny_cons (b := false) (kit_ty (by decide +kernel)) (fun _ => rfl) (fun z => by cases z)) (fun z => by cases z), q⟩
  | @ins a C dx fs h I hc h1 h2 => exact ⟨_, tp, _, .ref C, [.type "list", .type "tuple"], false, rfl, ht, .cons (.ty _) (.cons (.ty _) .nil), .base (.ins h I.cl I.ha I.hn I.htk I.hm), kitAny_cons (b := false) (kit_sub h1) (fun _ => kitAny_cons (b := false) (kit_sub h2) (fun _ => rfl) (fun z => by cases z)) (fun z => by cases z), q⟩
end
/-- no row of lo to hi things -/
def NoRow (K : Frag) (H : Hp) (v : V) (lo hi : Nat) : Prop := NotSeq K H v ∨ ∃ p xs, v = .ref p ∧ EAt H p xs ∧ ¬ (lo ≤ xs.length ∧ xs.length ≤ hi)
theorem NoRow.same {K : Frag} {B H : Hp} {v : V} {lo hi : Nat} (s : Same B H) (h : NoRow K B v lo hi) : NoRow K H v lo hi := by
  rcases h with h | ⟨p, xs, e, h, n⟩
  · exact .inl (h.same s)
  · exact .inr ⟨p, xs, e, h.up s, n⟩
/-- an int of the stretch -/
def frB (lo hi : Int) : V → Bool
  | .int i => decide (lo ≤ i) && decide (i ≤ hi)
  | _ => false
theorem bl_snoc {f : V → Bool} {ys : List V} {i : Nat} {y : V} (h : ys[i]? = some y) : (ys.take (i + 1)).map f = (ys.take i).map f ++ [f y] := by
  rw [List.take_add_one, h, List.map_append]; rfl
theorem WrongAt.mono {xs : List V} {n : Nat} {w : V} {G G' : V → Prop} (h : WrongAt xs n w G) (g : ∀ x, G x → G' x) : WrongAt xs n w G' := ⟨h.1, fun i x hi hx => g x (h.2 i x hi hx)⟩
theorem wrongAt_row {xs tl : List V} {n : Nat} {w : V} {G : V → Prop} (hn : n ≤ xs.length) (hg : ∀ x ∈ xs, G x) : WrongAt (xs.take n ++ [w] ++ tl) n w G := by
  have l : (xs.take n).length = n := by rw [List.length_take]; omega
  refine ⟨?_, fun i x hi hx => ?_⟩
  · rw [List.append_assoc, List.getElem?_append_right (by omega), l, Nat.sub_self]; rfl
  · rw [List.append_assoc, List.getElem?_append_left (by omega), List.getElem?_take, if_pos hi] at hx
    exact hg x (List.mem_of_getElem? hx)
end R
namespace R
open PySem PySem.Spec PyProof.Rows L2
open PySem.W (Frag)
section
variable {K : Frag} {B H : Hp} {Lw : List (Addr × HO)} {a b : Addr} {xs ys : List V} {lo hi : Option Int} {Q : VK} {k : Int}
theorem a_slLV (O : Own B Lw H) (hs : SqL K H a xs) (q : ∀ p H', H p = none → Own B ((p, .lst (cutV xs lo hi)) :: Lw) H' → Q (.ref p) H') : rSlL K (.ref a) lo hi H Q :=
  ⟨a, xs, rfl, hs, fun p hp => q p _ hp (O.new hp)⟩
theorem a_catL (O : Own B Lw H) (ha : H a = some (.lst xs)) (hb : H b = some (.lst ys)) (hz : xs.length + ys.length ≤ 1000000) (q : ∀ p H', H p = none → Own B ((p, .lst (xs ++ ys)) :: Lw) H' → Q (.ref p) H') : rCat (.ref a) (.ref b) H Q :=
  ⟨a, b, xs, ys, rfl, rfl, ha, hb, Nat.le_trans hz (by decide), fun p hp => q p _ hp (O.new hp)⟩
theorem a_repL (O : Own B Lw H) (ha : H a = some (.lst xs)) (hk : 0 ≤ k ∧ k ≤ 1000) (hz : xs.length ≤ 1000) (q : ∀ p H', H p = none → Own B ((p, .lst (List.replicate k.toNat xs).flatten) :: Lw) H' → Q (.ref p) H') : rRep (.ref a) (.int k) H Q := by
  refine ⟨a, k, xs, rfl, rfl, ha, by omega, by omega, ?_, fun p hp => q p _ hp (O.new hp)⟩
  have h1 : xs.length * k.toNat ≤ 1000 * 1000 := Nat.mul_le_mul hz (by omega)
  exact Nat.le_trans h1 (by decide)
end
end R
namespace R
open PySem PySem.Spec PyProof.Rows L2
open PySem.W (Frag)
theorem Own.fixAll {H : Hp} {row : Addr} {o : HO} : ∀ {Lw : List (Addr × HO)} {B : Hp}, Own B (Lw ++ [(row, o)]) H → ∃ B', Same B B' ∧ Own B' [(row, o)] H ∧ ∀ q ∈ Lw, B' q.1 = some q.2
  | [], B, O => ⟨B, Same.refl B, O, fun _ h => by simp at h⟩
  | (p, u) :: Lw, B, O => by
    have O1 : Own B ((p, u) :: (Lw ++ [(row, o)])) H := O
    obtain ⟨B', s, O', h⟩ := Own.fixAll (O1.fix)
    refine ⟨B', O1.fixS.trans s, O', fun q hq => ?_⟩
    rcases List.mem_cons.mp hq with rfl | hq
    · exact s _ _ upd_same
    · exact h q hq
theorem Own.sameDel {B H : Hp} {Lw : List (Addr × HO)} {row : Addr} {o : HO} (O : Own B Lw H) (i : Nat) (h : Lw[i]? = some (row, o)) : Same B (del1 H row) := fun a v e => by
  have n := O.gone i h
  rw [del1_ne (fun z => by rw [z, n] at e; cases e)]
  exact O.st _ _ e
end R

local macro_rules | `(tactic| walk_at "s") => `(tactic| first
  | with_reducible refine R.a_seq ?_ | with_reducible refine R.a_asg ?_ | with_reducible refine R.a_gname ?_ | ((with_reducible refine' R.a_var ?h1 ?h2); (case h1 => rfl)) | with_reducible refine R.a_c ?_
  | with_reducible refine R.a_op ?_ | with_reducible refine R.a_un ?_ | with_reducible refine R.a_neg ?_ | with_reducible refine R.a_drop ?_ | with_reducible refine R.a_ret ?_ | with_reducible refine R.a_retN ?_
  | with_reducible refine R.a_test ?_ | with_reducible refine R.a_tB ?_ | with_reducible refine R.a_bk ?_ | with_reducible refine R.a_and ?_ | with_reducible refine R.a_or ?_ | with_reducible refine R.a_not ?_
  | with_reducible refine R.a_andV ?_ | with_reducible refine R.a_orV ?_ | with_reducible refine R.a_notV ?_ | with_reducible refine R.a_bv ?_ | with_reducible refine R.a_ifE ?_
  | with_reducible refine R.a_nil ?_ | with_reducible refine R.a_cons ?_ | with_reducible refine R.a_tup ?_ | with_reducible refine R.a_lst ?_ | with_reducible refine R.a_cb ?_ | with_reducible refine R.a_call ?_ | with_reducible refine R.a_chain ?_
  | with_reducible refine R.a_sl ?_ | with_reducible refine R.a_npart ?_ | with_reducible refine R.a_part ?_ | with_reducible refine R.a_ik ?_ | with_reducible refine R.a_gsub ?_ | with_reducible refine R.a_bm ?_ | with_reducible refine R.a_bm0 ?_ | with_reducible refine R.a_par ?_ | with_reducible refine R.a_par2 ?_
  | with_reducible refine R.a_for ?_ | with_reducible refine R.a_rev ?_ | with_reducible refine R.a_iL ?_ | with_reducible refine R.a_iT ?_ | with_reducible refine R.a_enum ?_ | with_reducible refine R.a_lc ?_ | with_reducible refine R.a_rng1 ?_ | with_reducible refine R.a_rng2 ?_ | with_reducible refine R.a_next ?_ | with_reducible refine R.a_yes ?_ | with_reducible refine R.a_gcons ?_ | with_reducible refine R.a_gnil ?_
  | ((with_reducible refine R.a_rng1' ?h1 ?h2 ?h3); (case h1 => omega); (case h2 => omega)) | ((with_reducible refine R.a_rng2' ?h1 ?h2); (case h1 => omega))
  | with_reducible refine R.a_I0 ?_ | with_reducible refine R.a_eqI ?_ | with_reducible refine R.a_neI ?_ | with_reducible refine R.a_isN1 ?_ | with_reducible refine R.a_notN1 ?_
  | ((with_reducible refine R.a_isN0 ?h1 ?h2); (case h1 => (intro z; cases z))) | ((with_reducible refine R.a_notN0 ?h1 ?h2); (case h1 => (intro z; cases z)))
  | with_reducible refine R.a_isiI ?_ | with_reducible refine R.a_isiB ?_
  | ((with_reducible refine R.a_I ?h1 ?h2); (case h1 => first | omega | exact R.mx_l (by omega) (by omega) | exact R.mx_r (by omega) (by omega) | exact R.divW (by omega) (by omega)))
  | with_reducible refine R.a_tt ?_ | with_reducible refine R.a_ff ?_ | with_reducible refine R.a_nt ?_ | with_reducible refine R.a_nf ?_)
-- a test whose answer is known
local macro_rules | `(tactic| walk_at "k") => `(tactic| first
  | ((with_reducible refine R.a_itT ?h1 ?h2); (case h1 => first | assumption | omega)) | ((with_reducible refine R.a_itF ?h1 ?h2); (case h1 => first | assumption | omega))
  | ((with_reducible refine R.a_niT ?h1 ?h2); (case h1 => first | assumption | omega)) | ((with_reducible refine R.a_niF ?h1 ?h2); (case h1 => first | assumption | omega)))
local macro_rules | `(tactic| walk_at "k") => `(tactic| first
  | ((with_reducible refine R.a_cT ?h1 ?h2 ?h3); (case h1 => first | assumption | omega); (case h2 => first | assumption | omega))
  | ((with_reducible refine R.a_ncT ?h1 ?h2 ?h3); (case h1 => first | assumption | omega); (case h2 => first | assumption | omega)))
local macro_rules | `(tactic| walk_at "c") => `(tactic| fail)
local macro_rules | `(tactic| walk_at "sq") => `(tactic| first | assumption | (refine' R.Own.sq ?o 0 ?e; (case o => assumption); (case e => rfl)) | (refine' R.Own.sq ?o 1 ?e; (case o => assumption); (case e => rfl)) | (refine' R.Own.sq ?o 2 ?e; (case o => assumption); (case e => rfl)) | (refine' R.Own.sq ?o 3 ?e; (case o => assumption); (case e => rfl)) | (refine' R.Own.sq ?o 4 ?e; (case o => assumption); (case e => rfl)) | (refine' R.Own.sq ?o 5 ?e; (case o => assumption); (case e => rfl)) | (refine' R.Own.sq ?o 6 ?e; (case o => assumption); (case e => rfl)) | (refine' R.Own.sq ?o 7 ?e; (case o => assumption); (case e => rfl)) | (refine' R.Own.sq ?o 8 ?e; (case o => assumption); (case e => rfl)) | (refine' R.Own.sq ?o 9 ?e; (case o => assumption); (case e => rfl)) | (refine' R.Own.seq ?o ?e; (case o => assumption); (case e => assumption)))
local macro_rules | `(tactic| walk_at "tq") => `(tactic| first | assumption | (refine' R.Own.tq ?o 0 ?e; (case o => assumption); (case e => rfl)) | (refine' R.Own.tq ?o 1 ?e; (case o => assumption); (case e => rfl)) | (refine' R.Own.tq ?o 2 ?e; (case o => assumption); (case e => rfl)) | (refine' R.Own.tq ?o 3 ?e; (case o => assumption); (case e => rfl)) | (refine' R.Own.tq ?o 4 ?e; (case o => assumption); (case e => rfl)) | (refine' R.Own.tq ?o 5 ?e; (case o => assumption); (case e => rfl)) | (refine' R.Own.tq ?o 6 ?e; (case o => assumption); (case e => rfl)) | (refine' R.Own.tq ?o 7 ?e; (case o => assumption); (case e => rfl)) | (refine' R.Own.tq ?o 8 ?e; (case o => assumption); (case e => rfl)) | (refine' R.Own.tq ?o 9 ?e; (case o => assumption); (case e => rfl)) | (refine' R.Own.tup ?o ?e; (case o => assumption); (case e => assumption)))
local macro_rules | `(tactic| walk_at "c") => `(tactic| first
  | ((with_reducible refine' R.a_ixL ?s ?a ?q); (case s => walk_at "sq"); (case a => rfl))
  | ((with_reducible refine' R.a_ixT ?s ?a ?q); (case s => walk_at "tq"); (case a => rfl))
  | ((with_reducible refine' R.a_gtup ?k1 ?k2 ?k3); (case k1 => walk_at "tq"); (case k2 => rfl))
  | with_reducible refine R.a_int1 ?_ | with_reducible refine R.a_abs ?_
  | ((with_reducible refine' R.a_len ?k1 ?k2); (case k1 => first | (refine Or.inl ?_; walk_at "sq") | (refine Or.inr ?_; walk_at "tq")))
  | ((with_reducible refine' R.a_pow (k := 18) ?n ?k ?m ?q); (case n => rfl); (case k => decide); (case m => decide)) | ((with_reducible refine' R.a_pow (k := 40) ?n ?k ?m ?q); (case n => rfl); (case k => decide); (case m => decide)) | ((with_reducible refine' R.a_pow (k := 6) ?n ?k ?m ?q); (case n => rfl); (case k => decide); (case m => decide)) | ((with_reducible refine' R.a_pow (k := 20) ?n ?k ?m ?q); (case n => rfl); (case k => decide); (case m => decide)) | ((with_reducible refine' R.a_pow (k := 30) ?n ?k ?m ?q); (case n => rfl); (case k => decide); (case m => decide)) | ((with_reducible refine' R.a_pow (k := 39) ?n ?k ?m ?q); (case n => rfl); (case k => decide); (case m => decide))
  | ((with_reducible refine' R.a_setL ?k1 0 ?k2 ?k3 ?k4); (case k1 => assumption); (case k2 => rfl); (case k3 => rfl); intro H' O') | ((with_reducible refine' R.a_setL ?k1 1 ?k2 ?k3 ?k4); (case k1 => assumption); (case k2 => rfl); (case k3 => rfl); intro H' O') | ((with_reducible refine' R.a_setL ?k1 2 ?k2 ?k3 ?k4); (case k1 => assumption); (case k2 => rfl); (case k3 => rfl); intro H' O') | ((with_reducible refine' R.a_setL ?k1 3 ?k2 ?k3 ?k4); (case k1 => assumption); (case k2 => rfl); (case k3 => rfl); intro H' O') | ((with_reducible refine' R.a_setL ?k1 4 ?k2 ?k3 ?k4); (case k1 => assumption); (case k2 => rfl); (case k3 => rfl); intro H' O') | ((with_reducible refine' R.a_setL ?k1 5 ?k2 ?k3 ?k4); (case k1 => assumption); (case k2 => rfl); (case k3 => rfl); intro H' O') | ((with_reducible refine' R.a_setL ?k1 6 ?k2 ?k3 ?k4); (case k1 => assumption); (case k2 => rfl); (case k3 => rfl); intro H' O') | ((with_reducible refine' R.a_setL ?k1 7 ?k2 ?k3 ?k4); (case k1 => assumption); (case k2 => rfl); (case k3 => rfl); intro H' O') | ((with_reducible refine' R.a_setL ?k1 8 ?k2 ?k3 ?k4); (case k1 => assumption); (case k2 => rfl); (case k3 => rfl); intro H' O') | ((with_reducible refine' R.a_setL ?k1 9 ?k2 ?k3 ?k4); (case k1 => assumption); (case k2 => rfl); (case k3 => rfl); intro H' O'))
local macro_rules | `(tactic| walk_at "app") => `(tactic| first | ((with_reducible refine' R.a_app ?k1 0 ?k2 ?k3 ?k4); (case k1 => assumption); (case k2 => rfl)) | ((with_reducible refine' R.a_app ?k1 1 ?k2 ?k3 ?k4); (case k1 => assumption); (case k2 => rfl)) | ((with_reducible refine' R.a_app ?k1 2 ?k2 ?k3 ?k4); (case k1 => assumption); (case k2 => rfl)) | ((with_reducible refine' R.a_app ?k1 3 ?k2 ?k3 ?k4); (case k1 => assumption); (case k2 => rfl)) | ((with_reducible refine' R.a_app ?k1 4 ?k2 ?k3 ?k4); (case k1 => assumption); (case k2 => rfl)) | ((with_reducible refine' R.a_app ?k1 5 ?k2 ?k3 ?k4); (case k1 => assumption); (case k2 => rfl)))
local macro_rules | `(tactic| walk_at "mkL") => `(tactic| ((with_reducible refine' R.a_mkL ?k1 ?k2 ?k3); (case k1 => assumption); (case k2 => first | exact Nat.zero_le _ | (simp only [List.length_cons, List.length_nil, List.length_map]; omega))))
local macro_rules | `(tactic| walk_at "mkT") => `(tactic| ((with_reducible refine' R.a_mkT ?k1 ?k2 ?k3); (case k1 => assumption); (case k2 => first | exact Nat.zero_le _ | (simp only [List.length_cons, List.length_nil, List.length_map]; omega))))
local macro_rules | `(tactic| walk_at "h") => `(tactic| repeat (first | walk_at "s" | walk_at "k" | walk_at "c"))
local macro_rules | `(tactic| walk_at "g") => `(tactic| repeat (first | walk_at "s" | walk_at "k" | walk_at "c" | with_reducible refine R.a_if ?_))
local macro_rules | `(tactic| walk_at "s") => `(tactic| with_reducible refine R.a_enumT ?_)
local macro_rules | `(tactic| walk_at "s") => `(tactic| first | with_reducible refine R.a_fld ?_ | with_reducible refine R.a_sfld ?_ | with_reducible refine R.a_make ?_)
local macro_rules | `(tactic| walk_at "c") => `(tactic| ((with_reducible refine' R.a_glst ?k1 ?k2 ?k3); (case k1 => walk_at "sq"); (case k2 => rfl)))
local macro_rules | `(tactic| walk_at "s") => `(tactic| first | with_reducible refine R.a_neB ?_ | with_reducible refine R.a_eqB ?_ | with_reducible refine R.a_neO ?_ | with_reducible refine R.a_isO1 ?_ | with_reducible refine R.a_isO0 ?_ | with_reducible refine R.a_notO1 ?_ | with_reducible refine R.a_notO0 ?_)
local macro_rules | `(tactic| walk_at "s") => `(tactic| first | with_reducible refine R.a_par3 ?_ | with_reducible refine R.a_par33 ?_)
local macro_rules | `(tactic| walk_at "s") => `(tactic| first | with_reducible refine R.a_vei ?_ | with_reducible refine R.a_ost ?_ | with_reducible refine R.a_raise0 ?_ | with_reducible refine R.a_raise1 ?_ | with_reducible refine R.a_r1 ?_ | with_reducible refine R.a_try ?_ | with_reducible refine R.a_as ?_ | with_reducible refine R.a_xf ?_ | with_reducible refine R.a_callV ?_ | with_reducible refine R.a_callS ?_ | with_reducible refine R.a_makeS ?_ | with_reducible refine R.a_meth ?_)
local macro_rules | `(tactic| walk_at "callV") => `(tactic| ((first | refine ⟨_, _, rfl, (.head _), ?_⟩ | refine ⟨_, _, rfl, (.tail _ (.head _)), ?_⟩ | refine ⟨_, _, rfl, (.tail _ (.tail _ (.head _))), ?_⟩ | refine ⟨_, _, rfl, (.tail _ (.tail _ (.tail _ (.head _)))), ?_⟩ | refine ⟨_, _, rfl, (.tail _ (.tail _ (.tail _ (.tail _ (.head _))))), ?_⟩ | refine ⟨_, _, rfl, (.tail _ (.tail _ (.tail _ (.tail _ (.tail _ (.head _)))))), ?_⟩ | refine ⟨_, _, rfl, (.tail _ (.tail _ (.tail _ (.tail _ (.tail _ (.tail _ (.head _))))))), ?_⟩ | refine ⟨_, _, rfl, (.tail _ (.tail _ (.tail _ (.tail _ (.tail _ (.tail _ (.tail _ (.head _)))))))), ?_⟩); walk_at "g"))
local macro_rules | `(tactic| walk_at "s") => `(tactic| first | with_reducible refine R.a_neS1 ?_ | with_reducible refine R.a_eqS1 ?_)
local macro_rules | `(tactic| walk_at "badv") => `(tactic| first | exact R.BadV.non | exact R.BadV.bl | exact R.BadV.str (by first | rfl | decide +kernel) | exact R.BadV.int (by omega))

namespace Toy
open PySem PySem.Spec PyProof.Rows L2 R
open PySem.W (Frag)
def topS (i : Nat) : Stmt := PySem.Challenge.pw_resttricks_k42_errors_are_apart.main.body.getD i (.Pass ⟨0, 0, 0, 0⟩)
abbrev s_BadBase_init : Stmt := (inClass (topS 2) 0)
abbrev N_BadBase_init : List Str := ["self"]
abbrev p_BadBase_init : List Str := ["self"]
theorem sc_BadBase_init : FnScope N_BadBase_init p_BadBase_init (defScope s_BadBase_init) := ⟨rfl, rfl, rfl, by decide +kernel, rfl, by decide +kernel, by decide +kernel⟩
abbrev s_BadTake_init : Stmt := (inClass (topS 3) 0)
abbrev N_BadTake_init : List Str := ["self"]
abbrev p_BadTake_init : List Str := ["self"]
theorem sc_BadTake_init : FnScope N_BadTake_init p_BadTake_init (defScope s_BadTake_init) := ⟨rfl, rfl, rfl, by decide +kernel, rfl, by decide +kernel, by decide +kernel⟩
abbrev s_BadTimes_init : Stmt := (inClass (topS 4) 0)
abbrev N_BadTimes_init : List Str := ["self"]
abbrev p_BadTimes_init : List Str := ["self"]
theorem sc_BadTimes_init : FnScope N_BadTimes_init p_BadTimes_init (defScope s_BadTimes_init) := ⟨rfl, rfl, rfl, by decide +kernel, rfl, by decide +kernel, by decide +kernel⟩
abbrev s_BadTrick_init : Stmt := (inClass (topS 5) 0)
abbrev N_BadTrick_init : List Str := ["self"]
abbrev p_BadTrick_init : List Str := ["self"]
theorem sc_BadTrick_init : FnScope N_BadTrick_init p_BadTrick_init (defScope s_BadTrick_init) := ⟨rfl, rfl, rfl, by decide +kernel, rfl, by decide +kernel, by decide +kernel⟩
abbrev s_BadNumber_init : Stmt := (inClass (topS 6) 0)
abbrev N_BadNumber_init : List Str := ["self", "n"]
abbrev p_BadNumber_init : List Str := ["self", "n"]
theorem sc_BadNumber_init : FnScope N_BadNumber_init p_BadNumber_init (defScope s_BadNumber_init) := ⟨rfl, rfl, rfl, by decide +kernel, rfl, by decide +kernel, by decide +kernel⟩
abbrev s_BadDivisor_init : Stmt := (inClass (topS 7) 0)
abbrev N_BadDivisor_init : List Str := ["self"]
abbrev p_BadDivisor_init : List Str := ["self"]
theorem sc_BadDivisor_init : FnScope N_BadDivisor_init p_BadDivisor_init (defScope s_BadDivisor_init) := ⟨rfl, rfl, rfl, by decide +kernel, rfl, by decide +kernel, by decide +kernel⟩
abbrev s_BadFigures_init : Stmt := (inClass (topS 8) 0)
abbrev N_BadFigures_init : List Str := ["self", "index"]
abbrev p_BadFigures_init : List Str := ["self", "index"]
theorem sc_BadFigures_init : FnScope N_BadFigures_init p_BadFigures_init (defScope s_BadFigures_init) := ⟨rfl, rfl, rfl, by decide +kernel, rfl, by decide +kernel, by decide +kernel⟩
abbrev s_BadWeights_init : Stmt := (inClass (topS 9) 0)
abbrev N_BadWeights_init : List Str := ["self", "index"]
abbrev p_BadWeights_init : List Str := ["self", "index"]
theorem sc_BadWeights_init : FnScope N_BadWeights_init p_BadWeights_init (defScope s_BadWeights_init) := ⟨rfl, rfl, rfl, by decide +kernel, rfl, by decide +kernel, by decide +kernel⟩
abbrev s_BadSum_init : Stmt := (inClass (topS 10) 0)
abbrev N_BadSum_init : List Str := ["self"]
abbrev p_BadSum_init : List Str := ["self"]
theorem sc_BadSum_init : FnScope N_BadSum_init p_BadSum_init (defScope s_BadSum_init) := ⟨rfl, rfl, rfl, by decide +kernel, rfl, by decide +kernel, by decide +kernel⟩
abbrev s_BadRests_init : Stmt := (inClass (topS 11) 0)
abbrev N_BadRests_init : List Str := ["self", "index"]
abbrev p_BadRests_init : List Str := ["self", "index"]
theorem sc_BadRests_init : FnScope N_BadRests_init p_BadRests_init (defScope s_BadRests_init) := ⟨rfl, rfl, rfl, by decide +kernel, rfl, by decide +kernel, by decide +kernel⟩
abbrev s_BadRest_init : Stmt := (inClass (topS 12) 0)
abbrev N_BadRest_init : List Str := ["self"]
abbrev p_BadRest_init : List Str := ["self"]
theorem sc_BadRest_init : FnScope N_BadRest_init p_BadRest_init (defScope s_BadRest_init) := ⟨rfl, rfl, rfl, by decide +kernel, rfl, by decide +kernel, by decide +kernel⟩
abbrev s_BadTricks_init : Stmt := (inClass (topS 13) 0)
abbrev N_BadTricks_init : List Str := ["self", "index"]
abbrev p_BadTricks_init : List Str := ["self", "index"]
theorem sc_BadTricks_init : FnScope N_BadTricks_init p_BadTricks_init (defScope s_BadTricks_init) := ⟨rfl, rfl, rfl, by decide +kernel, rfl, by decide +kernel, by decide +kernel⟩
abbrev s_BadPairs_init : Stmt := (inClass (topS 14) 0)
abbrev N_BadPairs_init : List Str := ["self", "index"]
abbrev p_BadPairs_init : List Str := ["self", "index"]
theorem sc_BadPairs_init : FnScope N_BadPairs_init p_BadPairs_init (defScope s_BadPairs_init) := ⟨rfl, rfl, rfl, by decide +kernel, rfl, by decide +kernel, by decide +kernel⟩
abbrev s_TooWide_init : Stmt := (inClass (topS 15) 0)
abbrev N_TooWide_init : List Str := ["self", "most"]
abbrev p_TooWide_init : List Str := ["self", "most"]
theorem sc_TooWide_init : FnScope N_TooWide_init p_TooWide_init (defScope s_TooWide_init) := ⟨rfl, rfl, rfl, by decide +kernel, rfl, by decide +kernel, by decide +kernel⟩
abbrev s_InvalidText_init : Stmt := (inClass (topS 16) 0)
abbrev N_InvalidText_init : List Str := ["self", "word"]
abbrev p_InvalidText_init : List Str := ["self", "word"]
theorem sc_InvalidText_init : FnScope N_InvalidText_init p_InvalidText_init (defScope s_InvalidText_init) := ⟨rfl, rfl, rfl, by decide +kernel, rfl, by decide +kernel, by decide +kernel⟩
abbrev s_is_from : Stmt := (topS 23)
abbrev N_is_from : List Str := ["value", "low", "high"]
abbrev p_is_from : List Str := ["value", "low", "high"]
theorem sc_is_from : FnScope N_is_from p_is_from (defScope s_is_from) := ⟨rfl, rfl, rfl, by decide +kernel, rfl, by decide +kernel, by decide +kernel⟩
abbrev s_need_base : Stmt := (topS 24)
abbrev N_need_base : List Str := ["base"]
abbrev p_need_base : List Str := ["base"]
theorem sc_need_base : FnScope N_need_base p_need_base (defScope s_need_base) := ⟨rfl, rfl, rfl, by decide +kernel, rfl, by decide +kernel, by decide +kernel⟩
abbrev s_need_number : Stmt := (topS 25)
abbrev N_need_number : List Str := ["n"]
abbrev p_need_number : List Str := ["n"]
theorem sc_need_number : FnScope N_need_number p_need_number (defScope s_need_number) := ⟨rfl, rfl, rfl, by decide +kernel, rfl, by decide +kernel, by decide +kernel⟩
abbrev s_need_divisor : Stmt := (topS 26)
abbrev N_need_divisor : List Str := ["d", "most"]
abbrev p_need_divisor : List Str := ["d", "most"]
theorem sc_need_divisor : FnScope N_need_divisor p_need_divisor (defScope s_need_divisor) := ⟨rfl, rfl, rfl, by decide +kernel, rfl, by decide +kernel, by decide +kernel⟩
abbrev s_figures : Stmt := (topS 28)
abbrev N_figures : List Str := ["n", "base"]
abbrev p_figures : List Str := ["n", "base"]
theorem sc_figures : FnScope N_figures p_figures (defScope s_figures) := ⟨rfl, rfl, rfl, by decide +kernel, rfl, by decide +kernel, by decide +kernel⟩
abbrev s_number : Stmt := (topS 29)
abbrev N_number : List Str := ["told", "base", "found", "index", "figure"]
abbrev p_number : List Str := ["told", "base"]
theorem sc_number : FnScope N_number p_number (defScope s_number) := ⟨rfl, rfl, rfl, by decide +kernel, rfl, by decide +kernel, by decide +kernel⟩
abbrev s_power : Stmt := (topS 30)
abbrev N_power : List Str := ["base", "many", "found", "turn"]
abbrev p_power : List Str := ["base", "many"]
theorem sc_power : FnScope N_power p_power (defScope s_power) := ⟨rfl, rfl, rfl, by decide +kernel, rfl, by decide +kernel, by decide +kernel⟩
abbrev s_Trick_init : Stmt := (inClass (topS 34) 0)
abbrev N_Trick_init : List Str := ["self", "base", "take", "times"]
abbrev p_Trick_init : List Str := ["self", "base", "take", "times"]
theorem sc_Trick_init : FnScope N_Trick_init p_Trick_init (defScope s_Trick_init) := ⟨rfl, rfl, rfl, by decide +kernel, rfl, by decide +kernel, by decide +kernel⟩
abbrev s_need_trick : Stmt := (topS 35)
abbrev N_need_trick : List Str := ["trick"]
abbrev p_need_trick : List Str := ["trick"]
theorem sc_need_trick : FnScope N_need_trick p_need_trick (defScope s_need_trick) := ⟨rfl, rfl, rfl, by decide +kernel, rfl, by decide +kernel, by decide +kernel⟩
abbrev s_done : Stmt := (topS 37)
abbrev N_done : List Str := ["trick", "n"]
abbrev p_done : List Str := ["trick", "n"]
theorem sc_done : FnScope N_done p_done (defScope s_done) := ⟨rfl, rfl, rfl, by decide +kernel, rfl, by decide +kernel, by decide +kernel⟩
abbrev s_tells : Stmt := (topS 44)
abbrev N_tells : List Str := ["trick", "d"]
abbrev p_tells : List Str := ["trick", "d"]
theorem sc_tells : FnScope N_tells p_tells (defScope s_tells) := ⟨rfl, rfl, rfl, by decide +kernel, rfl, by decide +kernel, by decide +kernel⟩
abbrev s_need_tricks : Stmt := (topS 49)
abbrev N_need_tricks : List Str := ["tricks", "index", "trick"]
abbrev p_need_tricks : List Str := ["tricks"]
theorem sc_need_tricks : FnScope N_need_tricks p_need_tricks (defScope s_need_tricks) := ⟨rfl, rfl, rfl, by decide +kernel, rfl, by decide +kernel, by decide +kernel⟩
abbrev s_chained : Stmt := (topS 51)
abbrev N_chained : List Str := ["tricks", "n"]
abbrev p_chained : List Str := ["tricks", "n"]
theorem sc_chained : FnScope N_chained p_chained (defScope s_chained) := ⟨rfl, rfl, rfl, by decide +kernel, rfl, by decide +kernel, by decide +kernel⟩
abbrev s_wide_of : Stmt := (topS 52)
abbrev N_wide_of : List Str := ["tricks", "found", "trick"]
abbrev p_wide_of : List Str := ["tricks"]
theorem sc_wide_of : FnScope N_wide_of p_wide_of (defScope s_wide_of) := ⟨rfl, rfl, rfl, by decide +kernel, rfl, by decide +kernel, by decide +kernel⟩
abbrev s_need_chain : Stmt := (topS 53)
abbrev N_need_chain : List Str := ["tricks", "d"]
abbrev p_need_chain : List Str := ["tricks", "d"]
theorem sc_need_chain : FnScope N_need_chain p_need_chain (defScope s_need_chain) := ⟨rfl, rfl, rfl, by decide +kernel, rfl, by decide +kernel, by decide +kernel⟩
abbrev s_chain_tells : Stmt := (topS 58)
abbrev N_chain_tells : List Str := ["tricks", "d"]
abbrev p_chain_tells : List Str := ["tricks", "d"]
theorem sc_chain_tells : FnScope N_chain_tells p_chain_tells (defScope s_chain_tells) := ⟨rfl, rfl, rfl, by decide +kernel, rfl, by decide +kernel, by decide +kernel⟩
abbrev s_need_labels : Stmt := (topS 61)
abbrev N_need_labels : List Str := ["labels", "index", "label"]
abbrev p_need_labels : List Str := ["labels"]
theorem sc_need_labels : FnScope N_need_labels p_need_labels (defScope s_need_labels) := ⟨rfl, rfl, rfl, by decide +kernel, rfl, by decide +kernel, by decide +kernel⟩
abbrev s_front_states : Stmt := (topS 66)
abbrev N_front_states : List Str := ["base", "labels"]
abbrev p_front_states : List Str := ["base", "labels"]
theorem sc_front_states : FnScope N_front_states p_front_states (defScope s_front_states) := ⟨rfl, rfl, rfl, by decide +kernel, rfl, by decide +kernel, by decide +kernel⟩
abbrev s_front_word : Stmt := (topS 67)
abbrev N_front_word : List Str := ["base", "labels", "one", "other"]
abbrev p_front_word : List Str := ["base", "labels", "one", "other"]
theorem sc_front_word : FnScope N_front_word p_front_word (defScope s_front_word) := ⟨rfl, rfl, rfl, by decide +kernel, rfl, by decide +kernel, by decide +kernel⟩
abbrev s_need_weights : Stmt := (topS 71)
abbrev N_need_weights : List Str := ["weights", "least", "index", "weight"]
abbrev p_need_weights : List Str := ["weights", "least"]
theorem sc_need_weights : FnScope N_need_weights p_need_weights (defScope s_need_weights) := ⟨rfl, rfl, rfl, by decide +kernel, rfl, by decide +kernel, by decide +kernel⟩
abbrev s_Sum_init : Stmt := (inClass (topS 72) 0)
abbrev N_Sum_init : List Str := ["self", "base", "take", "first", "loop"]
abbrev p_Sum_init : List Str := ["self", "base", "take", "first", "loop"]
theorem sc_Sum_init : FnScope N_Sum_init p_Sum_init (defScope s_Sum_init) := ⟨rfl, rfl, rfl, by decide +kernel, rfl, by decide +kernel, by decide +kernel⟩
abbrev s_need_sum : Stmt := (topS 73)
abbrev N_need_sum : List Str := ["told"]
abbrev p_need_sum : List Str := ["told"]
theorem sc_need_sum : FnScope N_need_sum p_need_sum (defScope s_need_sum) := ⟨rfl, rfl, rfl, by decide +kernel, rfl, by decide +kernel, by decide +kernel⟩
abbrev s_total : Stmt := (topS 76)
abbrev N_total : List Str := ["told", "n"]
abbrev p_total : List Str := ["told", "n"]
theorem sc_total : FnScope N_total p_total (defScope s_total) := ⟨rfl, rfl, rfl, by decide +kernel, rfl, by decide +kernel, by decide +kernel⟩
abbrev s_number_in : Stmt := (topS 78)
abbrev N_number_in : List Str := ["words", "at", "low", "high", "number"]
abbrev p_number_in : List Str := ["words", "at", "low", "high"]
theorem sc_number_in : FnScope N_number_in p_number_in (defScope s_number_in) := ⟨rfl, rfl, rfl, by decide +kernel, rfl, by decide +kernel, by decide +kernel⟩
abbrev s_need_word : Stmt := (topS 79)
abbrev N_need_word : List Str := ["words", "at", "told"]
abbrev p_need_word : List Str := ["words", "at", "told"]
theorem sc_need_word : FnScope N_need_word p_need_word (defScope s_need_word) := ⟨rfl, rfl, rfl, by decide +kernel, rfl, by decide +kernel, by decide +kernel⟩
abbrev s_read : Stmt := (topS 80)
abbrev N_read : List Str := ["text", "words", "base", "take", "times", "word"]
abbrev p_read : List Str := ["text"]
theorem sc_read : FnScope N_read p_read (defScope s_read) := ⟨rfl, rfl, rfl, by decide +kernel, rfl, by decide +kernel, by decide +kernel⟩
abbrev s_need_pairs : Stmt := (topS 83)
abbrev N_need_pairs : List Str := ["pairs", "index", "pair", "one"]
abbrev p_need_pairs : List Str := ["pairs"]
theorem sc_need_pairs : FnScope N_need_pairs p_need_pairs (defScope s_need_pairs) := ⟨rfl, rfl, rfl, by decide +kernel, rfl, by decide +kernel, by decide +kernel⟩
abbrev s_fitting : Stmt := (topS 85)
abbrev N_fitting : List Str := ["pairs", "found", "base", "take", "times"]
abbrev p_fitting : List Str := ["pairs"]
theorem sc_fitting : FnScope N_fitting p_fitting (defScope s_fitting) := ⟨rfl, rfl, rfl, by decide +kernel, rfl, by decide +kernel, by decide +kernel⟩
abbrev s_law_taken : Stmt := (topS 87)
abbrev N_law_taken : List Str := ["_law_row", "_law_many", "_law_found", "_law_cell"]
abbrev p_law_taken : List Str := ["_law_row", "_law_many"]
theorem sc_law_taken : FnScope N_law_taken p_law_taken (defScope s_law_taken) := ⟨rfl, rfl, rfl, by decide +kernel, rfl, by decide +kernel, by decide +kernel⟩
abbrev s_law_call : Stmt := (topS 88)
abbrev N_law_call : List Str := ["_law_kind", "_law_trick"]
abbrev p_law_call : List Str := ["_law_kind"]
theorem sc_law_call : FnScope N_law_call p_law_call (defScope s_law_call) := ⟨rfl, rfl, rfl, by decide +kernel, rfl, by decide +kernel, by decide +kernel⟩
abbrev s_law_early : Stmt := (topS 89)
abbrev N_law_early : List Str := ["_law_kind", "_law_trick"]
abbrev p_law_early : List Str := ["_law_kind", "_law_trick"]
theorem sc_law_early : FnScope N_law_early p_law_early (defScope s_law_early) := ⟨rfl, rfl, rfl, by decide +kernel, rfl, by decide +kernel, by decide +kernel⟩
abbrev s_law_first : Stmt := (topS 90)
abbrev N_law_first : List Str := ["_law_kind", "_law_raised"]
abbrev p_law_first : List Str := ["_law_kind"]
theorem sc_law_first : FnScope N_law_first p_law_first (defScope s_law_first) := ⟨rfl, rfl, rfl, by decide +kernel, rfl, by decide +kernel, by decide +kernel⟩
abbrev s_law_second : Stmt := (topS 91)
abbrev N_law_second : List Str := ["_law_kind", "_law_raised"]
abbrev p_law_second : List Str := ["_law_kind"]
theorem sc_law_second : FnScope N_law_second p_law_second (defScope s_law_second) := ⟨rfl, rfl, rfl, by decide +kernel, rfl, by decide +kernel, by decide +kernel⟩
abbrev s_law : Stmt := (topS 92)
abbrev N_law : List Str := ["_law_script", "_law_line", "_law_turn", "_law_kind"]
abbrev p_law : List Str := ["_law_script"]
theorem sc_law : FnScope N_law p_law (defScope s_law) := ⟨rfl, rfl, rfl, by decide +kernel, rfl, by decide +kernel, by decide +kernel⟩
structure Adr where
  f_BadBase_init : Addr
  d_BadBase_init : FuncData
  f_BadTake_init : Addr
  d_BadTake_init : FuncData
  f_BadTimes_init : Addr
  d_BadTimes_init : FuncData
  f_BadTrick_init : Addr
  d_BadTrick_init : FuncData
  f_BadNumber_init : Addr
  d_BadNumber_init : FuncData
  f_BadDivisor_init : Addr
  d_BadDivisor_init : FuncData
  f_BadFigures_init : Addr
  d_BadFigures_init : FuncData
  f_BadWeights_init : Addr
  d_BadWeights_init : FuncData
  f_BadSum_init : Addr
  d_BadSum_init : FuncData
  f_BadRests_init : Addr
  d_BadRests_init : FuncData
  f_BadRest_init : Addr
  d_BadRest_init : FuncData
  f_BadTricks_init : Addr
  d_BadTricks_init : FuncData
  f_BadPairs_init : Addr
  d_BadPairs_init : FuncData
  f_TooWide_init : Addr
  d_TooWide_init : FuncData
  f_InvalidText_init : Addr
  d_InvalidText_init : FuncData
  f_is_from : Addr
  d_is_from : FuncData
  f_need_base : Addr
  d_need_base : FuncData
  f_need_number : Addr
  d_need_number : FuncData
  f_need_divisor : Addr
  d_need_divisor : FuncData
  f_figures : Addr
  d_figures : FuncData
  f_number : Addr
  d_number : FuncData
  f_power : Addr
  d_power : FuncData
  f_Trick_init : Addr
  d_Trick_init : FuncData
  f_need_trick : Addr
  d_need_trick : FuncData
  f_done : Addr
  d_done : FuncData
  f_tells : Addr
  d_tells : FuncData
  f_need_tricks : Addr
  d_need_tricks : FuncData
  f_chained : Addr
  d_chained : FuncData
  f_wide_of : Addr
  d_wide_of : FuncData
  f_need_chain : Addr
  d_need_chain : FuncData
  f_chain_tells : Addr
  d_chain_tells : FuncData
  f_need_labels : Addr
  d_need_labels : FuncData
  f_front_states : Addr
  d_front_states : FuncData
  f_front_word : Addr
  d_front_word : FuncData
  f_need_weights : Addr
  d_need_weights : FuncData
  f_Sum_init : Addr
  d_Sum_init : FuncData
  f_need_sum : Addr
  d_need_sum : FuncData
  f_total : Addr
  d_total : FuncData
  f_number_in : Addr
  d_number_in : FuncData
  f_need_word : Addr
  d_need_word : FuncData
  f_read : Addr
  d_read : FuncData
  f_need_pairs : Addr
  d_need_pairs : FuncData
  f_fitting : Addr
  d_fitting : FuncData
  f_law_taken : Addr
  d_law_taken : FuncData
  f_law_call : Addr
  d_law_call : FuncData
  f_law_early : Addr
  d_law_early : FuncData
  f_law_first : Addr
  d_law_first : FuncData
  f_law_second : Addr
  d_law_second : FuncData
  f_law : Addr
  d_law : FuncData
  c_Trick : Addr
  c_Sum : Addr
  c_TrickError : Addr
  c_BadBase : Addr
  c_BadTake : Addr
  c_BadTimes : Addr
  c_BadTrick : Addr
  c_BadNumber : Addr
  c_BadDivisor : Addr
  c_BadFigures : Addr
  c_BadWeights : Addr
  c_BadSum : Addr
  c_BadRests : Addr
  c_BadRest : Addr
  c_BadTricks : Addr
  c_BadPairs : Addr
  c_TooWide : Addr
  c_InvalidText : Addr
structure Txt (K : Frag) (mg : Str → Option Value) (Z : Adr) : Prop where
  F_BadBase_init : Fun K "__init__" "BadBase.__init__" s_BadBase_init Z.f_BadBase_init Z.d_BadBase_init
  b_BadBase_init : Binds K Z.d_BadBase_init p_BadBase_init []
  F_BadTake_init : Fun K "__init__" "BadTake.__init__" s_BadTake_init Z.f_BadTake_init Z.d_BadTake_init
  b_BadTake_init : Binds K Z.d_BadTake_init p_BadTake_init []
  F_BadTimes_init : Fun K "__init__" "BadTimes.__init__" s_BadTimes_init Z.f_BadTimes_init Z.d_BadTimes_init
  b_BadTimes_init : Binds K Z.d_BadTimes_init p_BadTimes_init []
  F_BadTrick_init : Fun K "__init__" "BadTrick.__init__" s_BadTrick_init Z.f_BadTrick_init Z.d_BadTrick_init
  b_BadTrick_init : Binds K Z.d_BadTrick_init p_BadTrick_init []
  F_BadNumber_init : Fun K "__init__" "BadNumber.__init__" s_BadNumber_init Z.f_BadNumber_init Z.d_BadNumber_init
  b_BadNumber_init : Binds K Z.d_BadNumber_init p_BadNumber_init []
  F_BadDivisor_init : Fun K "__init__" "BadDivisor.__init__" s_BadDivisor_init Z.f_BadDivisor_init Z.d_BadDivisor_init
  b_BadDivisor_init : Binds K Z.d_BadDivisor_init p_BadDivisor_init []
  F_BadFigures_init : Fun K "__init__" "BadFigures.__init__" s_BadFigures_init Z.f_BadFigures_init Z.d_BadFigures_init
  b_BadFigures_init : Binds K Z.d_BadFigures_init p_BadFigures_init []
  F_BadWeights_init : Fun K "__init__" "BadWeights.__init__" s_BadWeights_init Z.f_BadWeights_init Z.d_BadWeights_init
  b_BadWeights_init : Binds K Z.d_BadWeights_init p_BadWeights_init []
  F_BadSum_init : Fun K "__init__" "BadSum.__init__" s_BadSum_init Z.f_BadSum_init Z.d_BadSum_init
  b_BadSum_init : Binds K Z.d_BadSum_init p_BadSum_init []
  F_BadRests_init : Fun K "__init__" "BadRests.__init__" s_BadRests_init Z.f_BadRests_init Z.d_BadRests_init
  b_BadRests_init : Binds K Z.d_BadRests_init p_BadRests_init []
  F_BadRest_init : Fun K "__init__" "BadRest.__init__" s_BadRest_init Z.f_BadRest_init Z.d_BadRest_init
  b_BadRest_init : Binds K Z.d_BadRest_init p_BadRest_init []
  F_BadTricks_init : Fun K "__init__" "BadTricks.__init__" s_BadTricks_init Z.f_BadTricks_init Z.d_BadTricks_init
  b_BadTricks_init : Binds K Z.d_BadTricks_init p_BadTricks_init []
  F_BadPairs_init : Fun K "__init__" "BadPairs.__init__" s_BadPairs_init Z.f_BadPairs_init Z.d_BadPairs_init
  b_BadPairs_init : Binds K Z.d_BadPairs_init p_BadPairs_init []
  F_TooWide_init : Fun K "__init__" "TooWide.__init__" s_TooWide_init Z.f_TooWide_init Z.d_TooWide_init
  b_TooWide_init : Binds K Z.d_TooWide_init p_TooWide_init []
  F_InvalidText_init : Fun K "__init__" "InvalidText.__init__" s_InvalidText_init Z.f_InvalidText_init Z.d_InvalidText_init
  b_InvalidText_init : Binds K Z.d_InvalidText_init p_InvalidText_init []
  F_is_from : Fun K "is_from" "is_from" s_is_from Z.f_is_from Z.d_is_from
  b_is_from : Binds K Z.d_is_from p_is_from []
  g_is_from : mg "is_from" = some (.ref Z.f_is_from)
  F_need_base : Fun K "need_base" "need_base" s_need_base Z.f_need_base Z.d_need_base
  b_need_base : Binds K Z.d_need_base p_need_base []
  g_need_base : mg "need_base" = some (.ref Z.f_need_base)
  F_need_number : Fun K "need_number" "need_number" s_need_number Z.f_need_number Z.d_need_number
  b_need_number : Binds K Z.d_need_number p_need_number []
  g_need_number : mg "need_number" = some (.ref Z.f_need_number)
  F_need_divisor : Fun K "need_divisor" "need_divisor" s_need_divisor Z.f_need_divisor Z.d_need_divisor
  b_need_divisor : Binds K Z.d_need_divisor p_need_divisor []
  g_need_divisor : mg "need_divisor" = some (.ref Z.f_need_divisor)
  F_figures : Fun K "figures" "figures" s_figures Z.f_figures Z.d_figures
  b_figures : Binds K Z.d_figures p_figures []
  g_figures : mg "figures" = some (.ref Z.f_figures)
  F_number : Fun K "number" "number" s_number Z.f_number Z.d_number
  b_number : Binds K Z.d_number p_number []
  g_number : mg "number" = some (.ref Z.f_number)
  F_power : Fun K "power" "power" s_power Z.f_power Z.d_power
  b_power : Binds K Z.d_power p_power []
  g_power : mg "power" = some (.ref Z.f_power)
  F_Trick_init : Fun K "__init__" "Trick.__init__" s_Trick_init Z.f_Trick_init Z.d_Trick_init
  b_Trick_init : Binds K Z.d_Trick_init p_Trick_init []
  F_need_trick : Fun K "need_trick" "need_trick" s_need_trick Z.f_need_trick Z.d_need_trick
  b_need_trick : Binds K Z.d_need_trick p_need_trick []
  g_need_trick : mg "need_trick" = some (.ref Z.f_need_trick)
  F_done : Fun K "done" "done" s_done Z.f_done Z.d_done
  b_done : Binds K Z.d_done p_done []
  g_done : mg "done" = some (.ref Z.f_done)
  F_tells : Fun K "tells" "tells" s_tells Z.f_tells Z.d_tells
  b_tells : Binds K Z.d_tells p_tells []
  g_tells : mg "tells" = some (.ref Z.f_tells)
  F_need_tricks : Fun K "need_tricks" "need_tricks" s_need_tricks Z.f_need_tricks Z.d_need_tricks
  b_need_tricks : Binds K Z.d_need_tricks p_need_tricks []
  g_need_tricks : mg "need_tricks" = some (.ref Z.f_need_tricks)
  F_chained : Fun K "chained" "chained" s_chained Z.f_chained Z.d_chained
  b_chained : Binds K Z.d_chained p_chained []
  g_chained : mg "chained" = some (.ref Z.f_chained)
  F_wide_of : Fun K "wide_of" "wide_of" s_wide_of Z.f_wide_of Z.d_wide_of
  b_wide_of : Binds K Z.d_wide_of p_wide_of []
  g_wide_of : mg "wide_of" = some (.ref Z.f_wide_of)
  F_need_chain : Fun K "need_chain" "need_chain" s_need_chain Z.f_need_chain Z.d_need_chain
  b_need_chain : Binds K Z.d_need_chain p_need_chain []
  g_need_chain : mg "need_chain" = some (.ref Z.f_need_chain)
  F_chain_tells : Fun K "chain_tells" "chain_tells" s_chain_tells Z.f_chain_tells Z.d_chain_tells
  b_chain_tells : Binds K Z.d_chain_tells p_chain_tells []
  g_chain_tells : mg "chain_tells" = some (.ref Z.f_chain_tells)
  F_need_labels : Fun K "need_labels" "need_labels" s_need_labels Z.f_need_labels Z.d_need_labels
  b_need_labels : Binds K Z.d_need_labels p_need_labels []
  g_need_labels : mg "need_labels" = some (.ref Z.f_need_labels)
  F_front_states : Fun K "front_states" "front_states" s_front_states Z.f_front_states Z.d_front_states
  b_front_states : Binds K Z.d_front_states p_front_states []
  g_front_states : mg "front_states" = some (.ref Z.f_front_states)
  F_front_word : Fun K "front_word" "front_word" s_front_word Z.f_front_word Z.d_front_word
  b_front_word : Binds K Z.d_front_word p_front_word []
  g_front_word : mg "front_word" = some (.ref Z.f_front_word)
  F_need_weights : Fun K "need_weights" "need_weights" s_need_weights Z.f_need_weights Z.d_need_weights
  b_need_weights : Binds K Z.d_need_weights p_need_weights []
  g_need_weights : mg "need_weights" = some (.ref Z.f_need_weights)
  F_Sum_init : Fun K "__init__" "Sum.__init__" s_Sum_init Z.f_Sum_init Z.d_Sum_init
  b_Sum_init : Binds K Z.d_Sum_init p_Sum_init []
  F_need_sum : Fun K "need_sum" "need_sum" s_need_sum Z.f_need_sum Z.d_need_sum
  b_need_sum : Binds K Z.d_need_sum p_need_sum []
  g_need_sum : mg "need_sum" = some (.ref Z.f_need_sum)
  F_total : Fun K "total" "total" s_total Z.f_total Z.d_total
  b_total : Binds K Z.d_total p_total []
  g_total : mg "total" = some (.ref Z.f_total)
  F_number_in : Fun K "number_in" "number_in" s_number_in Z.f_number_in Z.d_number_in
  b_number_in : Binds K Z.d_number_in p_number_in []
  g_number_in : mg "number_in" = some (.ref Z.f_number_in)
  F_need_word : Fun K "need_word" "need_word" s_need_word Z.f_need_word Z.d_need_word
  b_need_word : Binds K Z.d_need_word p_need_word []
  g_need_word : mg "need_word" = some (.ref Z.f_need_word)
  F_read : Fun K "read" "read" s_read Z.f_read Z.d_read
  b_read : Binds K Z.d_read p_read []
  g_read : mg "read" = some (.ref Z.f_read)
  F_need_pairs : Fun K "need_pairs" "need_pairs" s_need_pairs Z.f_need_pairs Z.d_need_pairs
  b_need_pairs : Binds K Z.d_need_pairs p_need_pairs []
  g_need_pairs : mg "need_pairs" = some (.ref Z.f_need_pairs)
  F_fitting : Fun K "fitting" "fitting" s_fitting Z.f_fitting Z.d_fitting
  b_fitting : Binds K Z.d_fitting p_fitting []
  g_fitting : mg "fitting" = some (.ref Z.f_fitting)
  F_law_taken : Fun K "_law_taken" "_law_taken" s_law_taken Z.f_law_taken Z.d_law_taken
  b_law_taken : Binds K Z.d_law_taken p_law_taken []
  g_law_taken : mg "_law_taken" = some (.ref Z.f_law_taken)
  F_law_call : Fun K "_law_call" "_law_call" s_law_call Z.f_law_call Z.d_law_call
  b_law_call : Binds K Z.d_law_call p_law_call []
  g_law_call : mg "_law_call" = some (.ref Z.f_law_call)
  F_law_early : Fun K "_law_early" "_law_early" s_law_early Z.f_law_early Z.d_law_early
  b_law_early : Binds K Z.d_law_early p_law_early []
  g_law_early : mg "_law_early" = some (.ref Z.f_law_early)
  F_law_first : Fun K "_law_first" "_law_first" s_law_first Z.f_law_first Z.d_law_first
  b_law_first : Binds K Z.d_law_first p_law_first []
  g_law_first : mg "_law_first" = some (.ref Z.f_law_first)
  F_law_second : Fun K "_law_second" "_law_second" s_law_second Z.f_law_second Z.d_law_second
  b_law_second : Binds K Z.d_law_second p_law_second []
  g_law_second : mg "_law_second" = some (.ref Z.f_law_second)
  F_law : Fun K "law" "law" s_law Z.f_law Z.d_law
  b_law : Binds K Z.d_law p_law []
  g_law : mg "law" = some (.ref Z.f_law)
  g_Trick : mg "Trick" = some (.ref Z.c_Trick)
  cl_Trick : Cls K Z.c_Trick
  is_Trick : C8.InsC K Z.c_Trick
  M_Trick : Mk K Z.c_Trick Z.f_Trick_init
  sl_Trick : PySem.W.subIn K (.ref Z.c_Trick) (.type "list") = some false
  st_Trick : PySem.W.subIn K (.ref Z.c_Trick) (.type "tuple") = some false
  ty_Trick : ((PySem.W.clsIn K Z.c_Trick).isSome && PySem.W.typeIn K (.ref Z.c_Trick) == some (.type "type")) = true
  nf_Trick_basis : NoAttr K Z.c_Trick "basis"
  nf_Trick_many : NoAttr K Z.c_Trick "many"
  nf_Trick_factor : NoAttr K Z.c_Trick "factor"
  nf_Trick_block : NoAttr K Z.c_Trick "block"
  g_Sum : mg "Sum" = some (.ref Z.c_Sum)
  cl_Sum : Cls K Z.c_Sum
  is_Sum : C8.InsC K Z.c_Sum
  M_Sum : Mk K Z.c_Sum Z.f_Sum_init
  sl_Sum : PySem.W.subIn K (.ref Z.c_Sum) (.type "list") = some false
  st_Sum : PySem.W.subIn K (.ref Z.c_Sum) (.type "tuple") = some false
  ty_Sum : ((PySem.W.clsIn K Z.c_Sum).isSome && PySem.W.typeIn K (.ref Z.c_Sum) == some (.type "type")) = true
  nf_Sum_basis : NoAttr K Z.c_Sum "basis"
  nf_Sum_many : NoAttr K Z.c_Sum "many"
  nf_Sum_begun : NoAttr K Z.c_Sum "begun"
  nf_Sum_again : NoAttr K Z.c_Sum "again"
  nf_Sum_block : NoAttr K Z.c_Sum "block"
  g_TrickError : mg "TrickError" = some (.ref Z.c_TrickError)
  g_BadBase : mg "BadBase" = some (.ref Z.c_BadBase)
  g_BadTake : mg "BadTake" = some (.ref Z.c_BadTake)
  g_BadTimes : mg "BadTimes" = some (.ref Z.c_BadTimes)
  g_BadTrick : mg "BadTrick" = some (.ref Z.c_BadTrick)
  g_BadNumber : mg "BadNumber" = some (.ref Z.c_BadNumber)
  g_BadDivisor : mg "BadDivisor" = some (.ref Z.c_BadDivisor)
  g_BadFigures : mg "BadFigures" = some (.ref Z.c_BadFigures)
  g_BadWeights : mg "BadWeights" = some (.ref Z.c_BadWeights)
  g_BadSum : mg "BadSum" = some (.ref Z.c_BadSum)
  g_BadRests : mg "BadRests" = some (.ref Z.c_BadRests)
  g_BadRest : mg "BadRest" = some (.ref Z.c_BadRest)
  g_BadTricks : mg "BadTricks" = some (.ref Z.c_BadTricks)
  g_BadPairs : mg "BadPairs" = some (.ref Z.c_BadPairs)
  g_TooWide : mg "TooWide" = some (.ref Z.c_TooWide)
  g_InvalidText : mg "InvalidText" = some (.ref Z.c_InvalidText)
  oi_TrickError : OinC K Z.c_TrickError
  ox_BadBase : OexC K Z.c_BadBase
  xf_BadBase : XfC K Z.c_BadBase
  ix_BadBase : PySem.W.findIn K (.ref Z.c_BadBase) "__init__" = some (some (.ref Z.f_BadBase_init))
  tx_BadBase : PySem.W.typeIn K (.ref Z.f_BadBase_init) = some (.type "function")
  em_BadBase_BadSum : PySem.W.exmOne K (.ref Z.c_BadBase) (.ref Z.c_BadSum) = some false
  em_BadBase_BadRests : PySem.W.exmOne K (.ref Z.c_BadBase) (.ref Z.c_BadRests) = some false
  em_BadBase_BadRest : PySem.W.exmOne K (.ref Z.c_BadBase) (.ref Z.c_BadRest) = some false
  em_BadBase_BadTricks : PySem.W.exmOne K (.ref Z.c_BadBase) (.ref Z.c_BadTricks) = some false
  em_BadBase_BadPairs : PySem.W.exmOne K (.ref Z.c_BadBase) (.ref Z.c_BadPairs) = some false
  em_BadBase_TooWide : PySem.W.exmOne K (.ref Z.c_BadBase) (.ref Z.c_TooWide) = some false
  em_BadBase_InvalidText : PySem.W.exmOne K (.ref Z.c_BadBase) (.ref Z.c_InvalidText) = some false
  em_BadBase_TrickError : PySem.W.exmOne K (.ref Z.c_BadBase) (.ref Z.c_TrickError) = some true
  em_BadBase_BadBase : PySem.W.exmOne K (.ref Z.c_BadBase) (.ref Z.c_BadBase) = some true
  em_BadBase_BadTake : PySem.W.exmOne K (.ref Z.c_BadBase) (.ref Z.c_BadTake) = some false
  em_BadBase_BadTimes : PySem.W.exmOne K (.ref Z.c_BadBase) (.ref Z.c_BadTimes) = some false
  em_BadBase_BadTrick : PySem.W.exmOne K (.ref Z.c_BadBase) (.ref Z.c_BadTrick) = some false
  em_BadBase_BadNumber : PySem.W.exmOne K (.ref Z.c_BadBase) (.ref Z.c_BadNumber) = some false
  em_BadBase_BadDivisor : PySem.W.exmOne K (.ref Z.c_BadBase) (.ref Z.c_BadDivisor) = some false
  em_BadBase_BadFigures : PySem.W.exmOne K (.ref Z.c_BadBase) (.ref Z.c_BadFigures) = some false
  em_BadBase_BadWeights : PySem.W.exmOne K (.ref Z.c_BadBase) (.ref Z.c_BadWeights) = some false
  ox_BadTake : OexC K Z.c_BadTake
  xf_BadTake : XfC K Z.c_BadTake
  ix_BadTake : PySem.W.findIn K (.ref Z.c_BadTake) "__init__" = some (some (.ref Z.f_BadTake_init))
  tx_BadTake : PySem.W.typeIn K (.ref Z.f_BadTake_init) = some (.type "function")
  em_BadTake_BadSum : PySem.W.exmOne K (.ref Z.c_BadTake) (.ref Z.c_BadSum) = some false
  em_BadTake_BadRests : PySem.W.exmOne K (.ref Z.c_BadTake) (.ref Z.c_BadRests) = some false
  em_BadTake_BadRest : PySem.W.exmOne K (.ref Z.c_BadTake) (.ref Z.c_BadRest) = some false
  em_BadTake_BadTricks : PySem.W.exmOne K (.ref Z.c_BadTake) (.ref Z.c_BadTricks) = some false
  em_BadTake_BadPairs : PySem.W.exmOne K (.ref Z.c_BadTake) (.ref Z.c_BadPairs) = some false
  em_BadTake_TooWide : PySem.W.exmOne K (.ref Z.c_BadTake) (.ref Z.c_TooWide) = some false
  em_BadTake_InvalidText : PySem.W.exmOne K (.ref Z.c_BadTake) (.ref Z.c_InvalidText) = some false
  em_BadTake_TrickError : PySem.W.exmOne K (.ref Z.c_BadTake) (.ref Z.c_TrickError) = some true
  em_BadTake_BadBase : PySem.W.exmOne K (.ref Z.c_BadTake) (.ref Z.c_BadBase) = some false
  em_BadTake_BadTake : PySem.W.exmOne K (.ref Z.c_BadTake) (.ref Z.c_BadTake) = some true
  em_BadTake_BadTimes : PySem.W.exmOne K (.ref Z.c_BadTake) (.ref Z.c_BadTimes) = some false
  em_BadTake_BadTrick : PySem.W.exmOne K (.ref Z.c_BadTake) (.ref Z.c_BadTrick) = some false
  em_BadTake_BadNumber : PySem.W.exmOne K (.ref Z.c_BadTake) (.ref Z.c_BadNumber) = some false
  em_BadTake_BadDivisor : PySem.W.exmOne K (.ref Z.c_BadTake) (.ref Z.c_BadDivisor) = some false
  em_BadTake_BadFigures : PySem.W.exmOne K (.ref Z.c_BadTake) (.ref Z.c_BadFigures) = some false
  em_BadTake_BadWeights : PySem.W.exmOne K (.ref Z.c_BadTake) (.ref Z.c_BadWeights) = some false
  ox_BadTimes : OexC K Z.c_BadTimes
  xf_BadTimes : XfC K Z.c_BadTimes
  ix_BadTimes : PySem.W.findIn K (.ref Z.c_BadTimes) "__init__" = some (some (.ref Z.f_BadTimes_init))
  tx_BadTimes : PySem.W.typeIn K (.ref Z.f_BadTimes_init) = some (.type "function")
  em_BadTimes_BadSum : PySem.W.exmOne K (.ref Z.c_BadTimes) (.ref Z.c_BadSum) = some false
  em_BadTimes_BadRests : PySem.W.exmOne K (.ref Z.c_BadTimes) (.ref Z.c_BadRests) = some false
  em_BadTimes_BadRest : PySem.W.exmOne K (.ref Z.c_BadTimes) (.ref Z.c_BadRest) = some false
  em_BadTimes_BadTricks : PySem.W.exmOne K (.ref Z.c_BadTimes) (.ref Z.c_BadTricks) = some false
  em_BadTimes_BadPairs : PySem.W.exmOne K (.ref Z.c_BadTimes) (.ref Z.c_BadPairs) = some false
  em_BadTimes_TooWide : PySem.W.exmOne K (.ref Z.c_BadTimes) (.ref Z.c_TooWide) = some false
  em_BadTimes_InvalidText : PySem.W.exmOne K (.ref Z.c_BadTimes) (.ref Z.c_InvalidText) = some false
  em_BadTimes_TrickError : PySem.W.exmOne K (.ref Z.c_BadTimes) (.ref Z.c_TrickError) = some true
  em_BadTimes_BadBase : PySem.W.exmOne K (.ref Z.c_BadTimes) (.ref Z.c_BadBase) = some false
  em_BadTimes_BadTake : PySem.W.exmOne K (.ref Z.c_BadTimes) (.ref Z.c_BadTake) = some false
  em_BadTimes_BadTimes : PySem.W.exmOne K (.ref Z.c_BadTimes) (.ref Z.c_BadTimes) = some true
  em_BadTimes_BadTrick : PySem.W.exmOne K (.ref Z.c_BadTimes) (.ref Z.c_BadTrick) = some false
  em_BadTimes_BadNumber : PySem.W.exmOne K (.ref Z.c_BadTimes) (.ref Z.c_BadNumber) = some false
  em_BadTimes_BadDivisor : PySem.W.exmOne K (.ref Z.c_BadTimes) (.ref Z.c_BadDivisor) = some false
  em_BadTimes_BadFigures : PySem.W.exmOne K (.ref Z.c_BadTimes) (.ref Z.c_BadFigures) = some false
  em_BadTimes_BadWeights : PySem.W.exmOne K (.ref Z.c_BadTimes) (.ref Z.c_BadWeights) = some false
  ox_BadTrick : OexC K Z.c_BadTrick
  xf_BadTrick : XfC K Z.c_BadTrick
  ix_BadTrick : PySem.W.findIn K (.ref Z.c_BadTrick) "__init__" = some (some (.ref Z.f_BadTrick_init))
  tx_BadTrick : PySem.W.typeIn K (.ref Z.f_BadTrick_init) = some (.type "function")
  em_BadTrick_BadSum : PySem.W.exmOne K (.ref Z.c_BadTrick) (.ref Z.c_BadSum) = some false
  em_BadTrick_BadRests : PySem.W.exmOne K (.ref Z.c_BadTrick) (.ref Z.c_BadRests) = some false
  em_BadTrick_BadRest : PySem.W.exmOne K (.ref Z.c_BadTrick) (.ref Z.c_BadRest) = some false
  em_BadTrick_BadTricks : PySem.W.exmOne K (.ref Z.c_BadTrick) (.ref Z.c_BadTricks) = some false
  em_BadTrick_BadPairs : PySem.W.exmOne K (.ref Z.c_BadTrick) (.ref Z.c_BadPairs) = some false
  em_BadTrick_TooWide : PySem.W.exmOne K (.ref Z.c_BadTrick) (.ref Z.c_TooWide) = some false
  em_BadTrick_InvalidText : PySem.W.exmOne K (.ref Z.c_BadTrick) (.ref Z.c_InvalidText) = some false
  em_BadTrick_TrickError : PySem.W.exmOne K (.ref Z.c_BadTrick) (.ref Z.c_TrickError) = some true
  em_BadTrick_BadBase : PySem.W.exmOne K (.ref Z.c_BadTrick) (.ref Z.c_BadBase) = some false
  em_BadTrick_BadTake : PySem.W.exmOne K (.ref Z.c_BadTrick) (.ref Z.c_BadTake) = some false
  em_BadTrick_BadTimes : PySem.W.exmOne K (.ref Z.c_BadTrick) (.ref Z.c_BadTimes) = some false
  em_BadTrick_BadTrick : PySem.W.exmOne K (.ref Z.c_BadTrick) (.ref Z.c_BadTrick) = some true
  em_BadTrick_BadNumber : PySem.W.exmOne K (.ref Z.c_BadTrick) (.ref Z.c_BadNumber) = some false
  em_BadTrick_BadDivisor : PySem.W.exmOne K (.ref Z.c_BadTrick) (.ref Z.c_BadDivisor) = some false
  em_BadTrick_BadFigures : PySem.W.exmOne K (.ref Z.c_BadTrick) (.ref Z.c_BadFigures) = some false
  em_BadTrick_BadWeights : PySem.W.exmOne K (.ref Z.c_BadTrick) (.ref Z.c_BadWeights) = some false
  ox_BadNumber : OexC K Z.c_BadNumber
  xf_BadNumber : XfC K Z.c_BadNumber
  ix_BadNumber : PySem.W.findIn K (.ref Z.c_BadNumber) "__init__" = some (some (.ref Z.f_BadNumber_init))
  tx_BadNumber : PySem.W.typeIn K (.ref Z.f_BadNumber_init) = some (.type "function")
  nx_BadNumber_n : PySem.W.findIn K (.ref Z.c_BadNumber) "n" = some none
  em_BadNumber_BadSum : PySem.W.exmOne K (.ref Z.c_BadNumber) (.ref Z.c_BadSum) = some false
  em_BadNumber_BadRests : PySem.W.exmOne K (.ref Z.c_BadNumber) (.ref Z.c_BadRests) = some false
  em_BadNumber_BadRest : PySem.W.exmOne K (.ref Z.c_BadNumber) (.ref Z.c_BadRest) = some false
  em_BadNumber_BadTricks : PySem.W.exmOne K (.ref Z.c_BadNumber) (.ref Z.c_BadTricks) = some false
  em_BadNumber_BadPairs : PySem.W.exmOne K (.ref Z.c_BadNumber) (.ref Z.c_BadPairs) = some false
  em_BadNumber_TooWide : PySem.W.exmOne K (.ref Z.c_BadNumber) (.ref Z.c_TooWide) = some false
  em_BadNumber_InvalidText : PySem.W.exmOne K (.ref Z.c_BadNumber) (.ref Z.c_InvalidText) = some false
  em_BadNumber_TrickError : PySem.W.exmOne K (.ref Z.c_BadNumber) (.ref Z.c_TrickError) = some true
  em_BadNumber_BadBase : PySem.W.exmOne K (.ref Z.c_BadNumber) (.ref Z.c_BadBase) = some false
  em_BadNumber_BadTake : PySem.W.exmOne K (.ref Z.c_BadNumber) (.ref Z.c_BadTake) = some false
  em_BadNumber_BadTimes : PySem.W.exmOne K (.ref Z.c_BadNumber) (.ref Z.c_BadTimes) = some false
  em_BadNumber_BadTrick : PySem.W.exmOne K (.ref Z.c_BadNumber) (.ref Z.c_BadTrick) = some false
  em_BadNumber_BadNumber : PySem.W.exmOne K (.ref Z.c_BadNumber) (.ref Z.c_BadNumber) = some true
  em_BadNumber_BadDivisor : PySem.W.exmOne K (.ref Z.c_BadNumber) (.ref Z.c_BadDivisor) = some false
  em_BadNumber_BadFigures : PySem.W.exmOne K (.ref Z.c_BadNumber) (.ref Z.c_BadFigures) = some false
  em_BadNumber_BadWeights : PySem.W.exmOne K (.ref Z.c_BadNumber) (.ref Z.c_BadWeights) = some false
  ox_BadDivisor : OexC K Z.c_BadDivisor
  xf_BadDivisor : XfC K Z.c_BadDivisor
  ix_BadDivisor : PySem.W.findIn K (.ref Z.c_BadDivisor) "__init__" = some (some (.ref Z.f_BadDivisor_init))
  tx_BadDivisor : PySem.W.typeIn K (.ref Z.f_BadDivisor_init) = some (.type "function")
  em_BadDivisor_BadSum : PySem.W.exmOne K (.ref Z.c_BadDivisor) (.ref Z.c_BadSum) = some false
  em_BadDivisor_BadRests : PySem.W.exmOne K (.ref Z.c_BadDivisor) (.ref Z.c_BadRests) = some false
  em_BadDivisor_BadRest : PySem.W.exmOne K (.ref Z.c_BadDivisor) (.ref Z.c_BadRest) = some false
  em_BadDivisor_BadTricks : PySem.W.exmOne K (.ref Z.c_BadDivisor) (.ref Z.c_BadTricks) = some false
  em_BadDivisor_BadPairs : PySem.W.exmOne K (.ref Z.c_BadDivisor) (.ref Z.c_BadPairs) = some false
  em_BadDivisor_TooWide : PySem.W.exmOne K (.ref Z.c_BadDivisor) (.ref Z.c_TooWide) = some false
  em_BadDivisor_InvalidText : PySem.W.exmOne K (.ref Z.c_BadDivisor) (.ref Z.c_InvalidText) = some false
  em_BadDivisor_TrickError : PySem.W.exmOne K (.ref Z.c_BadDivisor) (.ref Z.c_TrickError) = some true
  em_BadDivisor_BadBase : PySem.W.exmOne K (.ref Z.c_BadDivisor) (.ref Z.c_BadBase) = some false
  em_BadDivisor_BadTake : PySem.W.exmOne K (.ref Z.c_BadDivisor) (.ref Z.c_BadTake) = some false
  em_BadDivisor_BadTimes : PySem.W.exmOne K (.ref Z.c_BadDivisor) (.ref Z.c_BadTimes) = some false
  em_BadDivisor_BadTrick : PySem.W.exmOne K (.ref Z.c_BadDivisor) (.ref Z.c_BadTrick) = some false
  em_BadDivisor_BadNumber : PySem.W.exmOne K (.ref Z.c_BadDivisor) (.ref Z.c_BadNumber) = some false
  em_BadDivisor_BadDivisor : PySem.W.exmOne K (.ref Z.c_BadDivisor) (.ref Z.c_BadDivisor) = some true
  em_BadDivisor_BadFigures : PySem.W.exmOne K (.ref Z.c_BadDivisor) (.ref Z.c_BadFigures) = some false
  em_BadDivisor_BadWeights : PySem.W.exmOne K (.ref Z.c_BadDivisor) (.ref Z.c_BadWeights) = some false
  ox_BadFigures : OexC K Z.c_BadFigures
  xf_BadFigures : XfC K Z.c_BadFigures
  ix_BadFigures : PySem.W.findIn K (.ref Z.c_BadFigures) "__init__" = some (some (.ref Z.f_BadFigures_init))
  tx_BadFigures : PySem.W.typeIn K (.ref Z.f_BadFigures_init) = some (.type "function")
  nx_BadFigures_index : PySem.W.findIn K (.ref Z.c_BadFigures) "index" = some none
  em_BadFigures_BadSum : PySem.W.exmOne K (.ref Z.c_BadFigures) (.ref Z.c_BadSum) = some false
  em_BadFigures_BadRests : PySem.W.exmOne K (.ref Z.c_BadFigures) (.ref Z.c_BadRests) = some false
  em_BadFigures_BadRest : PySem.W.exmOne K (.ref Z.c_BadFigures) (.ref Z.c_BadRest) = some false
  em_BadFigures_BadTricks : PySem.W.exmOne K (.ref Z.c_BadFigures) (.ref Z.c_BadTricks) = some false
  em_BadFigures_BadPairs : PySem.W.exmOne K (.ref Z.c_BadFigures) (.ref Z.c_BadPairs) = some false
  em_BadFigures_TooWide : PySem.W.exmOne K (.ref Z.c_BadFigures) (.ref Z.c_TooWide) = some false
  em_BadFigures_InvalidText : PySem.W.exmOne K (.ref Z.c_BadFigures) (.ref Z.c_InvalidText) = some false
  em_BadFigures_TrickError : PySem.W.exmOne K (.ref Z.c_BadFigures) (.ref Z.c_TrickError) = some true
  em_BadFigures_BadBase : PySem.W.exmOne K (.ref Z.c_BadFigures) (.ref Z.c_BadBase) = some false
  em_BadFigures_BadTake : PySem.W.exmOne K (.ref Z.c_BadFigures) (.ref Z.c_BadTake) = some false
  em_BadFigures_BadTimes : PySem.W.exmOne K (.ref Z.c_BadFigures) (.ref Z.c_BadTimes) = some false
  em_BadFigures_BadTrick : PySem.W.exmOne K (.ref Z.c_BadFigures) (.ref Z.c_BadTrick) = some false
  em_BadFigures_BadNumber : PySem.W.exmOne K (.ref Z.c_BadFigures) (.ref Z.c_BadNumber) = some false
  em_BadFigures_BadDivisor : PySem.W.exmOne K (.ref Z.c_BadFigures) (.ref Z.c_BadDivisor) = some false
  em_BadFigures_BadFigures : PySem.W.exmOne K (.ref Z.c_BadFigures) (.ref Z.c_BadFigures) = some true
  em_BadFigures_BadWeights : PySem.W.exmOne K (.ref Z.c_BadFigures) (.ref Z.c_BadWeights) = some false
  ox_BadWeights : OexC K Z.c_BadWeights
  xf_BadWeights : XfC K Z.c_BadWeights
  ix_BadWeights : PySem.W.findIn K (.ref Z.c_BadWeights) "__init__" = some (some (.ref Z.f_BadWeights_init))
  tx_BadWeights : PySem.W.typeIn K (.ref Z.f_BadWeights_init) = some (.type "function")
  nx_BadWeights_index : PySem.W.findIn K (.ref Z.c_BadWeights) "index" = some none
  em_BadWeights_BadSum : PySem.W.exmOne K (.ref Z.c_BadWeights) (.ref Z.c_BadSum) = some false
  em_BadWeights_BadRests : PySem.W.exmOne K (.ref Z.c_BadWeights) (.ref Z.c_BadRests) = some false
  em_BadWeights_BadRest : PySem.W.exmOne K (.ref Z.c_BadWeights) (.ref Z.c_BadRest) = some false
  em_BadWeights_BadTricks : PySem.W.exmOne K (.ref Z.c_BadWeights) (.ref Z.c_BadTricks) = some false
  em_BadWeights_BadPairs : PySem.W.exmOne K (.ref Z.c_BadWeights) (.ref Z.c_BadPairs) = some false
  em_BadWeights_TooWide : PySem.W.exmOne K (.ref Z.c_BadWeights) (.ref Z.c_TooWide) = some false
  em_BadWeights_InvalidText : PySem.W.exmOne K (.ref Z.c_BadWeights) (.ref Z.c_InvalidText) = some false
  em_BadWeights_TrickError : PySem.W.exmOne K (.ref Z.c_BadWeights) (.ref Z.c_TrickError) = some true
  em_BadWeights_BadBase : PySem.W.exmOne K (.ref Z.c_BadWeights) (.ref Z.c_BadBase) = some false
  em_BadWeights_BadTake : PySem.W.exmOne K (.ref Z.c_BadWeights) (.ref Z.c_BadTake) = some false
  em_BadWeights_BadTimes : PySem.W.exmOne K (.ref Z.c_BadWeights) (.ref Z.c_BadTimes) = some false
  em_BadWeights_BadTrick : PySem.W.exmOne K (.ref Z.c_BadWeights) (.ref Z.c_BadTrick) = some false
  em_BadWeights_BadNumber : PySem.W.exmOne K (.ref Z.c_BadWeights) (.ref Z.c_BadNumber) = some false
  em_BadWeights_BadDivisor : PySem.W.exmOne K (.ref Z.c_BadWeights) (.ref Z.c_BadDivisor) = some false
  em_BadWeights_BadFigures : PySem.W.exmOne K (.ref Z.c_BadWeights) (.ref Z.c_BadFigures) = some false
  em_BadWeights_BadWeights : PySem.W.exmOne K (.ref Z.c_BadWeights) (.ref Z.c_BadWeights) = some true
  ox_BadSum : OexC K Z.c_BadSum
  xf_BadSum : XfC K Z.c_BadSum
  ix_BadSum : PySem.W.findIn K (.ref Z.c_BadSum) "__init__" = some (some (.ref Z.f_BadSum_init))
  tx_BadSum : PySem.W.typeIn K (.ref Z.f_BadSum_init) = some (.type "function")
  em_BadSum_BadSum : PySem.W.exmOne K (.ref Z.c_BadSum) (.ref Z.c_BadSum) = some true
  em_BadSum_BadRests : PySem.W.exmOne K (.ref Z.c_BadSum) (.ref Z.c_BadRests) = some false
  em_BadSum_BadRest : PySem.W.exmOne K (.ref Z.c_BadSum) (.ref Z.c_BadRest) = some false
  em_BadSum_BadTricks : PySem.W.exmOne K (.ref Z.c_BadSum) (.ref Z.c_BadTricks) = some false
  em_BadSum_BadPairs : PySem.W.exmOne K (.ref Z.c_BadSum) (.ref Z.c_BadPairs) = some false
  em_BadSum_TooWide : PySem.W.exmOne K (.ref Z.c_BadSum) (.ref Z.c_TooWide) = some false
  em_BadSum_InvalidText : PySem.W.exmOne K (.ref Z.c_BadSum) (.ref Z.c_InvalidText) = some false
  em_BadSum_TrickError : PySem.W.exmOne K (.ref Z.c_BadSum) (.ref Z.c_TrickError) = some true
  em_BadSum_BadBase : PySem.W.exmOne K (.ref Z.c_BadSum) (.ref Z.c_BadBase) = some false
  em_BadSum_BadTake : PySem.W.exmOne K (.ref Z.c_BadSum) (.ref Z.c_BadTake) = some false
  em_BadSum_BadTimes : PySem.W.exmOne K (.ref Z.c_BadSum) (.ref Z.c_BadTimes) = some false
  em_BadSum_BadTrick : PySem.W.exmOne K (.ref Z.c_BadSum) (.ref Z.c_BadTrick) = some false
  em_BadSum_BadNumber : PySem.W.exmOne K (.ref Z.c_BadSum) (.ref Z.c_BadNumber) = some false
  em_BadSum_BadDivisor : PySem.W.exmOne K (.ref Z.c_BadSum) (.ref Z.c_BadDivisor) = some false
  em_BadSum_BadFigures : PySem.W.exmOne K (.ref Z.c_BadSum) (.ref Z.c_BadFigures) = some false
  em_BadSum_BadWeights : PySem.W.exmOne K (.ref Z.c_BadSum) (.ref Z.c_BadWeights) = some false
  ox_BadRests : OexC K Z.c_BadRests
  xf_BadRests : XfC K Z.c_BadRests
  ix_BadRests : PySem.W.findIn K (.ref Z.c_BadRests) "__init__" = some (some (.ref Z.f_BadRests_init))
  tx_BadRests : PySem.W.typeIn K (.ref Z.f_BadRests_init) = some (.type "function")
  nx_BadRests_index : PySem.W.findIn K (.ref Z.c_BadRests) "index" = some none
  em_BadRests_BadSum : PySem.W.exmOne K (.ref Z.c_BadRests) (.ref Z.c_BadSum) = some false
  em_BadRests_BadRests : PySem.W.exmOne K (.ref Z.c_BadRests) (.ref Z.c_BadRests) = some true
  em_BadRests_BadRest : PySem.W.exmOne K (.ref Z.c_BadRests) (.ref Z.c_BadRest) = some false
  em_BadRests_BadTricks : PySem.W.exmOne K (.ref Z.c_BadRests) (.ref Z.c_BadTricks) = some false
  em_BadRests_BadPairs : PySem.W.exmOne K (.ref Z.c_BadRests) (.ref Z.c_BadPairs) = some false
  em_BadRests_TooWide : PySem.W.exmOne K (.ref Z.c_BadRests) (.ref Z.c_TooWide) = some false
  em_BadRests_InvalidText : PySem.W.exmOne K (.ref Z.c_BadRests) (.ref Z.c_InvalidText) = some false
  em_BadRests_TrickError : PySem.W.exmOne K (.ref Z.c_BadRests) (.ref Z.c_TrickError) = some true
  em_BadRests_BadBase : PySem.W.exmOne K (.ref Z.c_BadRests) (.ref Z.c_BadBase) = some false
  em_BadRests_BadTake : PySem.W.exmOne K (.ref Z.c_BadRests) (.ref Z.c_BadTake) = some false
  em_BadRests_BadTimes : PySem.W.exmOne K (.ref Z.c_BadRests) (.ref Z.c_BadTimes) = some false
  em_BadRests_BadTrick : PySem.W.exmOne K (.ref Z.c_BadRests) (.ref Z.c_BadTrick) = some false
  em_BadRests_BadNumber : PySem.W.exmOne K (.ref Z.c_BadRests) (.ref Z.c_BadNumber) = some false
  em_BadRests_BadDivisor : PySem.W.exmOne K (.ref Z.c_BadRests) (.ref Z.c_BadDivisor) = some false
  em_BadRests_BadFigures : PySem.W.exmOne K (.ref Z.c_BadRests) (.ref Z.c_BadFigures) = some false
  em_BadRests_BadWeights : PySem.W.exmOne K (.ref Z.c_BadRests) (.ref Z.c_BadWeights) = some false
  ox_BadRest : OexC K Z.c_BadRest
  xf_BadRest : XfC K Z.c_BadRest
  ix_BadRest : PySem.W.findIn K (.ref Z.c_BadRest) "__init__" = some (some (.ref Z.f_BadRest_init))
  tx_BadRest : PySem.W.typeIn K (.ref Z.f_BadRest_init) = some (.type "function")
  em_BadRest_BadSum : PySem.W.exmOne K (.ref Z.c_BadRest) (.ref Z.c_BadSum) = some false
  em_BadRest_BadRests : PySem.W.exmOne K (.ref Z.c_BadRest) (.ref Z.c_BadRests) = some false
  em_BadRest_BadRest : PySem.W.exmOne K (.ref Z.c_BadRest) (.ref Z.c_BadRest) = some true
  em_BadRest_BadTricks : PySem.W.exmOne K (.ref Z.c_BadRest) (.ref Z.c_BadTricks) = some false
  em_BadRest_BadPairs : PySem.W.exmOne K (.ref Z.c_BadRest) (.ref Z.c_BadPairs) = some false
  em_BadRest_TooWide : PySem.W.exmOne K (.ref Z.c_BadRest) (.ref Z.c_TooWide) = some false
  em_BadRest_InvalidText : PySem.W.exmOne K (.ref Z.c_BadRest) (.ref Z.c_InvalidText) = some false
  em_BadRest_TrickError : PySem.W.exmOne K (.ref Z.c_BadRest) (.ref Z.c_TrickError) = some true
  em_BadRest_BadBase : PySem.W.exmOne K (.ref Z.c_BadRest) (.ref Z.c_BadBase) = some false
  em_BadRest_BadTake : PySem.W.exmOne K (.ref Z.c_BadRest) (.ref Z.c_BadTake) = some false
  em_BadRest_BadTimes : PySem.W.exmOne K (.ref Z.c_BadRest) (.ref Z.c_BadTimes) = some false
  em_BadRest_BadTrick : PySem.W.exmOne K (.ref Z.c_BadRest) (.ref Z.c_BadTrick) = some false
  em_BadRest_BadNumber : PySem.W.exmOne K (.ref Z.c_BadRest) (.ref Z.c_BadNumber) = some false
  em_BadRest_BadDivisor : PySem.W.exmOne K (.ref Z.c_BadRest) (.ref Z.c_BadDivisor) = some false
  em_BadRest_BadFigures : PySem.W.exmOne K (.ref Z.c_BadRest) (.ref Z.c_BadFigures) = some false
  em_BadRest_BadWeights : PySem.W.exmOne K (.ref Z.c_BadRest) (.ref Z.c_BadWeights) = some false
  ox_BadTricks : OexC K Z.c_BadTricks
  xf_BadTricks : XfC K Z.c_BadTricks
  ix_BadTricks : PySem.W.findIn K (.ref Z.c_BadTricks) "__init__" = some (some (.ref Z.f_BadTricks_init))
  tx_BadTricks : PySem.W.typeIn K (.ref Z.f_BadTricks_init) = some (.type "function")
  nx_BadTricks_index : PySem.W.findIn K (.ref Z.c_BadTricks) "index" = some none
  em_BadTricks_BadSum : PySem.W.exmOne K (.ref Z.c_BadTricks) (.ref Z.c_BadSum) = some false
  em_BadTricks_BadRests : PySem.W.exmOne K (.ref Z.c_BadTricks) (.ref Z.c_BadRests) = some false
  em_BadTricks_BadRest : PySem.W.exmOne K (.ref Z.c_BadTricks) (.ref Z.c_BadRest) = some false
  em_BadTricks_BadTricks : PySem.W.exmOne K (.ref Z.c_BadTricks) (.ref Z.c_BadTricks) = some true
  em_BadTricks_BadPairs : PySem.W.exmOne K (.ref Z.c_BadTricks) (.ref Z.c_BadPairs) = some false
  em_BadTricks_TooWide : PySem.W.exmOne K (.ref Z.c_BadTricks) (.ref Z.c_TooWide) = some false
  em_BadTricks_InvalidText : PySem.W.exmOne K (.ref Z.c_BadTricks) (.ref Z.c_InvalidText) = some false
  em_BadTricks_TrickError : PySem.W.exmOne K (.ref Z.c_BadTricks) (.ref Z.c_TrickError) = some true
  em_BadTricks_BadBase : PySem.W.exmOne K (.ref Z.c_BadTricks) (.ref Z.c_BadBase) = some false
  em_BadTricks_BadTake : PySem.W.exmOne K (.ref Z.c_BadTricks) (.ref Z.c_BadTake) = some false
  em_BadTricks_BadTimes : PySem.W.exmOne K (.ref Z.c_BadTricks) (.ref Z.c_BadTimes) = some false
  em_BadTricks_BadTrick : PySem.W.exmOne K (.ref Z.c_BadTricks) (.ref Z.c_BadTrick) = some false
  em_BadTricks_BadNumber : PySem.W.exmOne K (.ref Z.c_BadTricks) (.ref Z.c_BadNumber) = some false
  em_BadTricks_BadDivisor : PySem.W.exmOne K (.ref Z.c_BadTricks) (.ref Z.c_BadDivisor) = some false
  em_BadTricks_BadFigures : PySem.W.exmOne K (.ref Z.c_BadTricks) (.ref Z.c_BadFigures) = some false
  em_BadTricks_BadWeights : PySem.W.exmOne K (.ref Z.c_BadTricks) (.ref Z.c_BadWeights) = some false
  ox_BadPairs : OexC K Z.c_BadPairs
  xf_BadPairs : XfC K Z.c_BadPairs
  ix_BadPairs : PySem.W.findIn K (.ref Z.c_BadPairs) "__init__" = some (some (.ref Z.f_BadPairs_init))
  tx_BadPairs : PySem.W.typeIn K (.ref Z.f_BadPairs_init) = some (.type "function")
  nx_BadPairs_index : PySem.W.findIn K (.ref Z.c_BadPairs) "index" = some none
  em_BadPairs_BadSum : PySem.W.exmOne K (.ref Z.c_BadPairs) (.ref Z.c_BadSum) = some false
  em_BadPairs_BadRests : PySem.W.exmOne K (.ref Z.c_BadPairs) (.ref Z.c_BadRests) = some false
  em_BadPairs_BadRest : PySem.W.exmOne K (.ref Z.c_BadPairs) (.ref Z.c_BadRest) = some false
  em_BadPairs_BadTricks : PySem.W.exmOne K (.ref Z.c_BadPairs) (.ref Z.c_BadTricks) = some false
  em_BadPairs_BadPairs : PySem.W.exmOne K (.ref Z.c_BadPairs) (.ref Z.c_BadPairs) = some true
  em_BadPairs_TooWide : PySem.W.exmOne K (.ref Z.c_BadPairs) (.ref Z.c_TooWide) = some false
  em_BadPairs_InvalidText : PySem.W.exmOne K (.ref Z.c_BadPairs) (.ref Z.c_InvalidText) = some false
  em_BadPairs_TrickError : PySem.W.exmOne K (.ref Z.c_BadPairs) (.ref Z.c_TrickError) = some true
  em_BadPairs_BadBase : PySem.W.exmOne K (.ref Z.c_BadPairs) (.ref Z.c_BadBase) = some false
  em_BadPairs_BadTake : PySem.W.exmOne K (.ref Z.c_BadPairs) (.ref Z.c_BadTake) = some false
  em_BadPairs_BadTimes : PySem.W.exmOne K (.ref Z.c_BadPairs) (.ref Z.c_BadTimes) = some false
  em_BadPairs_BadTrick : PySem.W.exmOne K (.ref Z.c_BadPairs) (.ref Z.c_BadTrick) = some false
  em_BadPairs_BadNumber : PySem.W.exmOne K (.ref Z.c_BadPairs) (.ref Z.c_BadNumber) = some false
  em_BadPairs_BadDivisor : PySem.W.exmOne K (.ref Z.c_BadPairs) (.ref Z.c_BadDivisor) = some false
  em_BadPairs_BadFigures : PySem.W.exmOne K (.ref Z.c_BadPairs) (.ref Z.c_BadFigures) = some false
  em_BadPairs_BadWeights : PySem.W.exmOne K (.ref Z.c_BadPairs) (.ref Z.c_BadWeights) = some false
  ox_TooWide : OexC K Z.c_TooWide
  xf_TooWide : XfC K Z.c_TooWide
  ix_TooWide : PySem.W.findIn K (.ref Z.c_TooWide) "__init__" = some (some (.ref Z.f_TooWide_init))
  tx_TooWide : PySem.W.typeIn K (.ref Z.f_TooWide_init) = some (.type "function")
  nx_TooWide_most : PySem.W.findIn K (.ref Z.c_TooWide) "most" = some none
  em_TooWide_BadSum : PySem.W.exmOne K (.ref Z.c_TooWide) (.ref Z.c_BadSum) = some false
  em_TooWide_BadRests : PySem.W.exmOne K (.ref Z.c_TooWide) (.ref Z.c_BadRests) = some false
  em_TooWide_BadRest : PySem.W.exmOne K (.ref Z.c_TooWide) (.ref Z.c_BadRest) = some false
  em_TooWide_BadTricks : PySem.W.exmOne K (.ref Z.c_TooWide) (.ref Z.c_BadTricks) = some false
  em_TooWide_BadPairs : PySem.W.exmOne K (.ref Z.c_TooWide) (.ref Z.c_BadPairs) = some false
  em_TooWide_TooWide : PySem.W.exmOne K (.ref Z.c_TooWide) (.ref Z.c_TooWide) = some true
  em_TooWide_InvalidText : PySem.W.exmOne K (.ref Z.c_TooWide) (.ref Z.c_InvalidText) = some false
  em_TooWide_TrickError : PySem.W.exmOne K (.ref Z.c_TooWide) (.ref Z.c_TrickError) = some true
  em_TooWide_BadBase : PySem.W.exmOne K (.ref Z.c_TooWide) (.ref Z.c_BadBase) = some false
  em_TooWide_BadTake : PySem.W.exmOne K (.ref Z.c_TooWide) (.ref Z.c_BadTake) = some false
  em_TooWide_BadTimes : PySem.W.exmOne K (.ref Z.c_TooWide) (.ref Z.c_BadTimes) = some false
  em_TooWide_BadTrick : PySem.W.exmOne K (.ref Z.c_TooWide) (.ref Z.c_BadTrick) = some false
  em_TooWide_BadNumber : PySem.W.exmOne K (.ref Z.c_TooWide) (.ref Z.c_BadNumber) = some false
  em_TooWide_BadDivisor : PySem.W.exmOne K (.ref Z.c_TooWide) (.ref Z.c_BadDivisor) = some false
  em_TooWide_BadFigures : PySem.W.exmOne K (.ref Z.c_TooWide) (.ref Z.c_BadFigures) = some false
  em_TooWide_BadWeights : PySem.W.exmOne K (.ref Z.c_TooWide) (.ref Z.c_BadWeights) = some false
  ox_InvalidText : OexC K Z.c_InvalidText
  xf_InvalidText : XfC K Z.c_InvalidText
  ix_InvalidText : PySem.W.findIn K (.ref Z.c_InvalidText) "__init__" = some (some (.ref Z.f_InvalidText_init))
  tx_InvalidText : PySem.W.typeIn K (.ref Z.f_InvalidText_init) = some (.type "function")
  nx_InvalidText_word : PySem.W.findIn K (.ref Z.c_InvalidText) "word" = some none
  em_InvalidText_BadSum : PySem.W.exmOne K (.ref Z.c_InvalidText) (.ref Z.c_BadSum) = some false
  em_InvalidText_BadRests : PySem.W.exmOne K (.ref Z.c_InvalidText) (.ref Z.c_BadRests) = some false
  em_InvalidText_BadRest : PySem.W.exmOne K (.ref Z.c_InvalidText) (.ref Z.c_BadRest) = some false
  em_InvalidText_BadTricks : PySem.W.exmOne K (.ref Z.c_InvalidText) (.ref Z.c_BadTricks) = some false
  em_InvalidText_BadPairs : PySem.W.exmOne K (.ref Z.c_InvalidText) (.ref Z.c_BadPairs) = some false
  em_InvalidText_TooWide : PySem.W.exmOne K (.ref Z.c_InvalidText) (.ref Z.c_TooWide) = some false
  em_InvalidText_InvalidText : PySem.W.exmOne K (.ref Z.c_InvalidText) (.ref Z.c_InvalidText) = some true
  em_InvalidText_TrickError : PySem.W.exmOne K (.ref Z.c_InvalidText) (.ref Z.c_TrickError) = some true
  em_InvalidText_BadBase : PySem.W.exmOne K (.ref Z.c_InvalidText) (.ref Z.c_BadBase) = some false
  em_InvalidText_BadTake : PySem.W.exmOne K (.ref Z.c_InvalidText) (.ref Z.c_BadTake) = some false
  em_InvalidText_BadTimes : PySem.W.exmOne K (.ref Z.c_InvalidText) (.ref Z.c_BadTimes) = some false
  em_InvalidText_BadTrick : PySem.W.exmOne K (.ref Z.c_InvalidText) (.ref Z.c_BadTrick) = some false
  em_InvalidText_BadNumber : PySem.W.exmOne K (.ref Z.c_InvalidText) (.ref Z.c_BadNumber) = some false
  em_InvalidText_BadDivisor : PySem.W.exmOne K (.ref Z.c_InvalidText) (.ref Z.c_BadDivisor) = some false
  em_InvalidText_BadFigures : PySem.W.exmOne K (.ref Z.c_InvalidText) (.ref Z.c_BadFigures) = some false
  em_InvalidText_BadWeights : PySem.W.exmOne K (.ref Z.c_InvalidText) (.ref Z.c_BadWeights) = some false
  v_LEAST_BASE : ∃ t, mg "LEAST_BASE" = some (.int (2) t)
  v_MOST_BASE : ∃ t, mg "MOST_BASE" = some (.int (16) t)
  v_MOST_NUMBER : ∃ t, mg "MOST_NUMBER" = some (.int (10000000000000000000000000000000000000000) t)
  v_MOST_FIGURES : ∃ t, mg "MOST_FIGURES" = some (.int (150) t)
  v_MOST_DIVISOR : ∃ t, mg "MOST_DIVISOR" = some (.int (100) t)
  v_MOST_TAKE : ∃ t, mg "MOST_TAKE" = some (.int (2) t)
  v_MOST_TIMES : ∃ t, mg "MOST_TIMES" = some (.int (100) t)
  v_MOST_TRICKS : ∃ t, mg "MOST_TRICKS" = some (.int (4) t)
  v_MOST_WIDE : ∃ t, mg "MOST_WIDE" = some (.int (300) t)
  v_MOST_CHAIN_DIVISOR : ∃ t, mg "MOST_CHAIN_DIVISOR" = some (.int (30) t)
  v_MOST_RESTS : ∃ t, mg "MOST_RESTS" = some (.int (20) t)
  v_MOST_WEIGHT : ∃ t, mg "MOST_WEIGHT" = some (.int (1000000) t)
  v_MOST_WEIGHTS : ∃ t, mg "MOST_WEIGHTS" = some (.int (12) t)
  v_MOST_PAIRS : ∃ t, mg "MOST_PAIRS" = some (.int (10) t)
  n_isinstance : mg "isinstance" = none
  n_int : mg "int" = none
  n_bool : mg "bool" = none
  n_enumerate : mg "enumerate" = none
  n_tuple : mg "tuple" = none
  n_len : mg "len" = none
  n_range : mg "range" = none
  n_list : mg "list" = none
  n_set : mg "set" = none
  n_str : mg "str" = none
  n_all : mg "all" = none
  n_min : mg "min" = none
section
variable {P : Program} {w : World} {K : Frag} {mg : Str → Option Value} {base : Heap} {Z : Adr}

/-! ### BadBase_init -/
theorem ok_BadBase_init (T : Txt K mg Z) : FnOk P w K mg base CX0 1 Z.f_BadBase_init Z.d_BadBase_init p_BadBase_init (sp_exc0 Z.c_BadBase) := by
  refine T.F_BadBase_init.ok sc_BadBase_init (fun vs H Q E h => ?_) (fun cdv A outer s H vs Q E hr h => ?_)
  · obtain ⟨_, rfl, _⟩ := h; rfl
  · obtain ⟨a, rfl, ha, h⟩ := h
    refine ⟨_, (pss_one (ps_expr (pe_oeinit rfl T.g_TrickError T.oi_TrickError (pa_cons (pv 0) (pa_cons pe_str pa_nil))))), ?_⟩
    walk_at "g"
    refine ⟨a, _, _, rfl, (by show 1 ≤ 1000; decide), T.ox_BadBase, ha, ?_⟩
    walk_at "g"
    exact h

/-! ### BadTake_init -/
theorem ok_BadTake_init (T : Txt K mg Z) : FnOk P w K mg base CX0 1 Z.f_BadTake_init Z.d_BadTake_init p_BadTake_init (sp_exc0 Z.c_BadTake) := by
  refine T.F_BadTake_init.ok sc_BadTake_init (fun vs H Q E h => ?_) (fun cdv A outer s H vs Q E hr h => ?_)
  · obtain ⟨_, rfl, _⟩ := h; rfl
  · obtain ⟨a, rfl, ha, h⟩ := h
    refine ⟨_, (pss_one (ps_expr (pe_oeinit rfl T.g_TrickError T.oi_TrickError (pa_cons (pv 0) (pa_cons pe_str pa_nil))))), ?_⟩
    walk_at "g"
    refine ⟨a, _, _, rfl, (by show 1 ≤ 1000; decide), T.ox_BadTake, ha, ?_⟩
    walk_at "g"
    exact h

/-! ### BadTimes_init -/
theorem ok_BadTimes_init (T : Txt K mg Z) : FnOk P w K mg base CX0 1 Z.f_BadTimes_init Z.d_BadTimes_init p_BadTimes_init (sp_exc0 Z.c_BadTimes) := by
  refine T.F_BadTimes_init.ok sc_BadTimes_init (fun vs H Q E h => ?_) (fun cdv A outer s H vs Q E hr h => ?_)
  · obtain ⟨_, rfl, _⟩ := h; rfl
  · obtain ⟨a, rfl, ha, h⟩ := h
    refine ⟨_, (pss_one (ps_expr (pe_oeinit rfl T.g_TrickError T.oi_TrickError (pa_cons (pv 0) (pa_cons pe_str pa_nil))))), ?_⟩
    walk_at "g"
    refine ⟨a, _, _, rfl, (by show 1 ≤ 1000; decide), T.ox_BadTimes, ha, ?_⟩
    walk_at "g"
    exact h

/-! ### BadTrick_init -/
theorem ok_BadTrick_init (T : Txt K mg Z) : FnOk P w K mg base CX0 1 Z.f_BadTrick_init Z.d_BadTrick_init p_BadTrick_init (sp_exc0 Z.c_BadTrick) := by
  refine T.F_BadTrick_init.ok sc_BadTrick_init (fun vs H Q E h => ?_) (fun cdv A outer s H vs Q E hr h => ?_)
  · obtain ⟨_, rfl, _⟩ := h; rfl
  · obtain ⟨a, rfl, ha, h⟩ := h
    refine ⟨_, (pss_one (ps_expr (pe_oeinit rfl T.g_TrickError T.oi_TrickError (pa_cons (pv 0) (pa_cons pe_str pa_nil))))), ?_⟩
    walk_at "g"
    refine ⟨a, _, _, rfl, (by show 1 ≤ 1000; decide), T.ox_BadTrick, ha, ?_⟩
    walk_at "g"
    exact h

/-! ### BadNumber_init -/
theorem ok_BadNumber_init (T : Txt K mg Z) : FnOk P w K mg base CX0 1 Z.f_BadNumber_init Z.d_BadNumber_init p_BadNumber_init (sp_exc1 Z.c_BadNumber "n") := by
  refine T.F_BadNumber_init.ok sc_BadNumber_init (fun vs H Q E h => ?_) (fun cdv A outer s H vs Q E hr h => ?_)
  · obtain ⟨_, _, rfl, _⟩ := h; rfl
  · obtain ⟨a, v, rfl, ha, h⟩ := h
    refine ⟨_, (pss_cons (ps_expr (pe_oeinit rfl T.g_TrickError T.oi_TrickError (pa_cons (pv 0) (pa_cons pe_str pa_nil))))
    (pss_one (ps_ost (pv 0) (pv 1)))), ?_⟩
    walk_at "g"
    refine ⟨a, _, _, rfl, (by show 1 ≤ 1000; decide), T.ox_BadNumber, ha, ?_⟩
    walk_at "g"
    refine ⟨a, _, rfl, T.ox_BadNumber, T.nx_BadNumber_n, .inl ⟨ha, fun dx h1 h2 => ?_⟩⟩
    walk_at "g"
    exact h dx h1 h2

/-! ### BadDivisor_init -/
theorem ok_BadDivisor_init (T : Txt K mg Z) : FnOk P w K mg base CX0 1 Z.f_BadDivisor_init Z.d_BadDivisor_init p_BadDivisor_init (sp_exc0 Z.c_BadDivisor) := by
  refine T.F_BadDivisor_init.ok sc_BadDivisor_init (fun vs H Q E h => ?_) (fun cdv A outer s H vs Q E hr h => ?_)
  · obtain ⟨_, rfl, _⟩ := h; rfl
  · obtain ⟨a, rfl, ha, h⟩ := h
    refine ⟨_, (pss_one (ps_expr (pe_oeinit rfl T.g_TrickError T.oi_TrickError (pa_cons (pv 0) (pa_cons pe_str pa_nil))))), ?_⟩
    walk_at "g"
    refine ⟨a, _, _, rfl, (by show 1 ≤ 1000; decide), T.ox_BadDivisor, ha, ?_⟩
    walk_at "g"
    exact h

/-! ### BadFigures_init -/
theorem ok_BadFigures_init (T : Txt K mg Z) : FnOk P w K mg base CX0 1 Z.f_BadFigures_init Z.d_BadFigures_init p_BadFigures_init (sp_exc1 Z.c_BadFigures "index") := by
  refine T.F_BadFigures_init.ok sc_BadFigures_init (fun vs H Q E h => ?_) (fun cdv A outer s H vs Q E hr h => ?_)
  · obtain ⟨_, _, rfl, _⟩ := h; rfl
  · obtain ⟨a, v, rfl, ha, h⟩ := h
    refine ⟨_, (pss_cons (ps_expr (pe_oeinit rfl T.g_TrickError T.oi_TrickError (pa_cons (pv 0) (pa_cons pe_str pa_nil))))
    (pss_one (ps_ost (pv 0) (pv 1)))), ?_⟩
    walk_at "g"
    refine ⟨a, _, _, rfl, (by show 1 ≤ 1000; decide), T.ox_BadFigures, ha, ?_⟩
    walk_at "g"
    refine ⟨a, _, rfl, T.ox_BadFigures, T.nx_BadFigures_index, .inl ⟨ha, fun dx h1 h2 => ?_⟩⟩
    walk_at "g"
    exact h dx h1 h2

/-! ### BadWeights_init -/
theorem ok_BadWeights_init (T : Txt K mg Z) : FnOk P w K mg base CX0 1 Z.f_BadWeights_init Z.d_BadWeights_init p_BadWeights_init (sp_exc1 Z.c_BadWeights "index") := by
  refine T.F_BadWeights_init.ok sc_BadWeights_init (fun vs H Q E h => ?_) (fun cdv A outer s H vs Q E hr h => ?_)
  · obtain ⟨_, _, rfl, _⟩ := h; rfl
  · obtain ⟨a, v, rfl, ha, h⟩ := h
    refine ⟨_, (pss_cons (ps_expr (pe_oeinit rfl T.g_TrickError T.oi_TrickError (pa_cons (pv 0) (pa_cons pe_str pa_nil))))
    (pss_one (ps_ost (pv 0) (pv 1)))), ?_⟩
    walk_at "g"
    refine ⟨a, _, _, rfl, (by show 1 ≤ 1000; decide), T.ox_BadWeights, ha, ?_⟩
    walk_at "g"
    refine ⟨a, _, rfl, T.ox_BadWeights, T.nx_BadWeights_index, .inl ⟨ha, fun dx h1 h2 => ?_⟩⟩
    walk_at "g"
    exact h dx h1 h2

/-! ### BadSum_init -/
theorem ok_BadSum_init (T : Txt K mg Z) : FnOk P w K mg base CX0 1 Z.f_BadSum_init Z.d_BadSum_init p_BadSum_init (sp_exc0 Z.c_BadSum) := by
  refine T.F_BadSum_init.ok sc_BadSum_init (fun vs H Q E h => ?_) (fun cdv A outer s H vs Q E hr h => ?_)
  · obtain ⟨_, rfl, _⟩ := h; rfl
  · obtain ⟨a, rfl, ha, h⟩ := h
    refine ⟨_, (pss_one (ps_expr (pe_oeinit rfl T.g_TrickError T.oi_TrickError (pa_cons (pv 0) (pa_cons pe_str pa_nil))))), ?_⟩
    walk_at "g"
    refine ⟨a, _, _, rfl, (by show 1 ≤ 1000; decide), T.ox_BadSum, ha, ?_⟩
    walk_at "g"
    exact h

/-! ### BadRests_init -/
theorem ok_BadRests_init (T : Txt K mg Z) : FnOk P w K mg base CX0 1 Z.f_BadRests_init Z.d_BadRests_init p_BadRests_init (sp_exc1 Z.c_BadRests "index") := by
  refine T.F_BadRests_init.ok sc_BadRests_init (fun vs H Q E h => ?_) (fun cdv A outer s H vs Q E hr h => ?_)
  · obtain ⟨_, _, rfl, _⟩ := h; rfl
  · obtain ⟨a, v, rfl, ha, h⟩ := h
    refine ⟨_, (pss_cons (ps_expr (pe_oeinit rfl T.g_TrickError T.oi_TrickError (pa_cons (pv 0) (pa_cons pe_str pa_nil))))
    (pss_one (ps_ost (pv 0) (pv 1)))), ?_⟩
    walk_at "g"
    refine ⟨a, _, _, rfl, (by show 1 ≤ 1000; decide), T.ox_BadRests, ha, ?_⟩
    walk_at "g"
    refine ⟨a, _, rfl, T.ox_BadRests, T.nx_BadRests_index, .inl ⟨ha, fun dx h1 h2 => ?_⟩⟩
    walk_at "g"
    exact h dx h1 h2

/-! ### BadRest_init -/
theorem ok_BadRest_init (T : Txt K mg Z) : FnOk P w K mg base CX0 1 Z.f_BadRest_init Z.d_BadRest_init p_BadRest_init (sp_exc0 Z.c_BadRest) := by
  refine T.F_BadRest_init.ok sc_BadRest_init (fun vs H Q E h => ?_) (fun cdv A outer s H vs Q E hr h => ?_)
  · obtain ⟨_, rfl, _⟩ := h; rfl
  · obtain ⟨a, rfl, ha, h⟩ := h
    refine ⟨_, (pss_one (ps_expr (pe_oeinit rfl T.g_TrickError T.oi_TrickError (pa_cons (pv 0) (pa_cons pe_str pa_nil))))), ?_⟩
    walk_at "g"
    refine ⟨a, _, _, rfl, (by show 1 ≤ 1000; decide), T.ox_BadRest, ha, ?_⟩
    walk_at "g"
    exact h

/-! ### BadTricks_init -/
theorem ok_BadTricks_init (T : Txt K mg Z) : FnOk P w K mg base CX0 1 Z.f_BadTricks_init Z.d_BadTricks_init p_BadTricks_init (sp_exc1 Z.c_BadTricks "index") := by
  refine T.F_BadTricks_init.ok sc_BadTricks_init (fun vs H Q E h => ?_) (fun cdv A outer s H vs Q E hr h => ?_)
  · obtain ⟨_, _, rfl, _⟩ := h; rfl
  · obtain ⟨a, v, rfl, ha, h⟩ := h
    refine ⟨_, (pss_cons (ps_expr (pe_oeinit rfl T.g_TrickError T.oi_TrickError (pa_cons (pv 0) (pa_cons pe_str pa_nil))))
    (pss_one (ps_ost (pv 0) (pv 1)))), ?_⟩
    walk_at "g"
    refine ⟨a, _, _, rfl, (by show 1 ≤ 1000; decide), T.ox_BadTricks, ha, ?_⟩
    walk_at "g"
    refine ⟨a, _, rfl, T.ox_BadTricks, T.nx_BadTricks_index, .inl ⟨ha, fun dx h1 h2 => ?_⟩⟩
    walk_at "g"
    exact h dx h1 h2

/-! ### BadPairs_init -/
theorem ok_BadPairs_init (T : Txt K mg Z) : FnOk P w K mg base CX0 1 Z.f_BadPairs_init Z.d_BadPairs_init p_BadPairs_init (sp_exc1 Z.c_BadPairs "index") := by
  refine T.F_BadPairs_init.ok sc_BadPairs_init (fun vs H Q E h => ?_) (fun cdv A outer s H vs Q E hr h => ?_)
  · obtain ⟨_, _, rfl, _⟩ := h; rfl
  · obtain ⟨a, v, rfl, ha, h⟩ := h
    refine ⟨_, (pss_cons (ps_expr (pe_oeinit rfl T.g_TrickError T.oi_TrickError (pa_cons (pv 0) (pa_cons pe_str pa_nil))))
    (pss_one (ps_ost (pv 0) (pv 1)))), ?_⟩
    walk_at "g"
    refine ⟨a, _, _, rfl, (by show 1 ≤ 1000; decide), T.ox_BadPairs, ha, ?_⟩
    walk_at "g"
    refine ⟨a, _, rfl, T.ox_BadPairs, T.nx_BadPairs_index, .inl ⟨ha, fun dx h1 h2 => ?_⟩⟩
    walk_at "g"
    exact h dx h1 h2

/-! ### TooWide_init -/
theorem ok_TooWide_init (T : Txt K mg Z) : FnOk P w K mg base CX0 1 Z.f_TooWide_init Z.d_TooWide_init p_TooWide_init (sp_exc1 Z.c_TooWide "most") := by
  refine T.F_TooWide_init.ok sc_TooWide_init (fun vs H Q E h => ?_) (fun cdv A outer s H vs Q E hr h => ?_)
  · obtain ⟨_, _, rfl, _⟩ := h; rfl
  · obtain ⟨a, v, rfl, ha, h⟩ := h
    refine ⟨_, (pss_cons (ps_expr (pe_oeinit rfl T.g_TrickError T.oi_TrickError (pa_cons (pv 0) (pa_cons pe_str pa_nil))))
    (pss_one (ps_ost (pv 0) (pv 1)))), ?_⟩
    walk_at "g"
    refine ⟨a, _, _, rfl, (by show 1 ≤ 1000; decide), T.ox_TooWide, ha, ?_⟩
    walk_at "g"
    refine ⟨a, _, rfl, T.ox_TooWide, T.nx_TooWide_most, .inl ⟨ha, fun dx h1 h2 => ?_⟩⟩
    walk_at "g"
    exact h dx h1 h2

/-! ### InvalidText_init -/
theorem ok_InvalidText_init (T : Txt K mg Z) : FnOk P w K mg base CX0 1 Z.f_InvalidText_init Z.d_InvalidText_init p_InvalidText_init (sp_exc1 Z.c_InvalidText "word") := by
  refine T.F_InvalidText_init.ok sc_InvalidText_init (fun vs H Q E h => ?_) (fun cdv A outer s H vs Q E hr h => ?_)
  · obtain ⟨_, _, rfl, _⟩ := h; rfl
  · obtain ⟨a, v, rfl, ha, h⟩ := h
    refine ⟨_, (pss_cons (ps_expr (pe_oeinit rfl T.g_TrickError T.oi_TrickError (pa_cons (pv 0) (pa_cons pe_str pa_nil))))
    (pss_one (ps_ost (pv 0) (pv 1)))), ?_⟩
    walk_at "g"
    refine ⟨a, _, _, rfl, (by show 1 ≤ 1000; decide), T.ox_InvalidText, ha, ?_⟩
    walk_at "g"
    refine ⟨a, _, rfl, T.ox_InvalidText, T.nx_InvalidText_word, .inl ⟨ha, fun dx h1 h2 => ?_⟩⟩
    walk_at "g"
    exact h dx h1 h2

/-! ### is_from -/
def sp_is_from (K : Frag) : Sp := fun vs H Q _ => ∃ i lo hi : Int, vs = [.int i, .int lo, .int hi] ∧ Q (.bl (decide (lo ≤ i) && decide (i ≤ hi))) H
theorem use_is_from {K : Frag} {i lo hi : Int} {H : Hp} {Q : VK} {E : XK} (h : Q (.bl (decide (lo ≤ i) && decide (i ≤ hi))) H) : sp_is_from K ([.int i, .int lo, .int hi] ++ []) H Q E := ⟨_, _, _, rfl, h⟩
theorem ok_is_from (T : Txt K mg Z) : FnOk P w K mg base CX0 1 Z.f_is_from Z.d_is_from p_is_from (sp_is_from K) := by
  refine T.F_is_from.ok sc_is_from (fun vs H Q E h => ?_) (fun cdv A outer s H vs Q E hr h => ?_)
  · obtain ⟨_, _, _, rfl, _⟩ := h; rfl
  · obtain ⟨i, lo, hi, rfl, h⟩ := h
    refine ⟨_, (pss_one (ps_ret (pe_and (pe_callB (r := rIsi K) call_isi (by rfl) T.n_isinstance boot_isinstance (pa_cons (pv 0) (pa_cons (pe_bltn (v := .ty "int") (by rfl) T.n_int boot_int rfl) pa_nil))) (pe_and (pe_not (pe_callB (r := rIsi K) call_isi (by rfl) T.n_isinstance boot_isinstance (pa_cons (pv 0) (pa_cons (pe_bltn (v := .ty "bool") (by rfl) T.n_bool boot_bool rfl) pa_nil)))) (pe_one (pe_chain op_le op_le (pv 1) (pv 0) (pv 2))))))), ?_⟩
    walk_at "g"
    refine a_it2 (fun c => ?_) (fun c => ?_)
    · walk_at "g"
      rw [decide_eq_true c, Bool.true_and] at h; exact h
    · rw [decide_eq_false c] at h; exact h
-- @USE
local macro_rules | `(tactic| walk_at "c") => `(tactic| with_reducible refine use_is_from ?_)

/-! ### is_from_x -/
def sp_x_is_from (K : Frag) : Sp := fun vs H Q _ => ∃ (v : V) (lo hi : Int), vs = [v, .int lo, .int hi] ∧ ((Odd K H v ∧ Q (.bl false) H) ∨ ∃ i, v = .int i ∧ Q (.bl (decide (lo ≤ i) && decide (i ≤ hi))) H)
theorem use_x_is_from {K : Frag} {v : V} {lo hi : Int} {H : Hp} {Q : VK} {E : XK} (h : OutR K H v lo hi) (q : Q (.bl false) H) : sp_x_is_from K ([v, .int lo, .int hi] ++ []) H Q E := by
  refine ⟨v, lo, hi, rfl, ?_⟩
  rcases h with h | ⟨i, rfl, n⟩
  · exact .inl ⟨h, q⟩
  · refine .inr ⟨i, rfl, ?_⟩
    by_cases c : lo ≤ i
    · rw [decide_eq_true c, decide_eq_false (fun z => n ⟨c, z⟩)]; exact q
    · rw [decide_eq_false c]; exact q
theorem use_x_is_from_int {K : Frag} {i lo hi : Int} {H : Hp} {Q : VK} {E : XK} (q : Q (.bl (decide (lo ≤ i) && decide (i ≤ hi))) H) : sp_x_is_from K ([.int i, .int lo, .int hi] ++ []) H Q E := ⟨_, lo, hi, rfl, .inr ⟨i, rfl, q⟩⟩
theorem use_x_is_from_ok {K : Frag} {i lo hi : Int} {H : Hp} {Q : VK} {E : XK} (h : lo ≤ i ∧ i ≤ hi) (q : Q (.bl true) H) : sp_x_is_from K ([.int i, .int lo, .int hi] ++ []) H Q E :=
  ⟨_, lo, hi, rfl, .inr ⟨i, rfl, by rw [decide_eq_true h.1, decide_eq_true h.2]; exact q⟩⟩
theorem okX_is_from (T : Txt K mg Z) : FnOk P w K mg base CX0 1 Z.f_is_from Z.d_is_from p_is_from (sp_x_is_from K) := by
  refine T.F_is_from.ok sc_is_from (fun vs H Q E h => ?_) (fun cdv A outer s H vs Q E hr h => ?_)
  · obtain ⟨_, _, _, rfl, _⟩ := h; rfl
  · obtain ⟨v, lo, hi, rfl, h⟩ := h
    refine ⟨_, (pss_one (ps_ret (pe_and (pe_callB (r := rIsi K) call_isi (by rfl) T.n_isinstance boot_isinstance (pa_cons (pv 0) (pa_cons (pe_bltn (v := .ty "int") (by rfl) T.n_int boot_int rfl) pa_nil))) (pe_and (pe_not (pe_callB (r := rIsi K) call_isi (by rfl) T.n_isinstance boot_isinstance (pa_cons (pv 0) (pa_cons (pe_bltn (v := .ty "bool") (by rfl) T.n_bool boot_bool rfl) pa_nil)))) (pe_one (pe_chain op_le op_le (pv 1) (pv 0) (pv 2))))))), ?_⟩
    rcases h with ⟨o, h⟩ | ⟨i, rfl, h⟩
    · by_cases hb : ∃ b, v = .bl b
      · obtain ⟨b, rfl⟩ := hb
        walk_at "g"
        refine a_isiBI ?_
        walk_at "g"
        refine a_isiBB ?_
        walk_at "g"
        exact h
      · walk_at "g"
        refine a_isiO o (fun b e => hb ⟨b, e⟩) ?_
        walk_at "g"
        exact h
    · walk_at "g"
      refine a_it2 (fun c => ?_) (fun c => ?_)
      · walk_at "g"
        rw [decide_eq_true c, Bool.true_and] at h; exact h
      · rw [decide_eq_false c] at h; exact h

/-! ### need_base -/
def sp_need_base : Sp := fun vs H Q _ => ∃ b : Int, vs = [.int b] ∧ 2 ≤ b ∧ b ≤ 16 ∧ Q .non H
theorem use_need_base {b : Int} {H : Hp} {Q : VK} {E : XK} (h1 : 2 ≤ b) (h2 : b ≤ 16) (h : Q .non H) : sp_need_base ([.int b] ++ []) H Q E := ⟨_, rfl, h1, h2, h⟩
theorem ok_need_base (T : Txt K mg Z) : FnOk P w K mg base CX0 2 Z.f_need_base Z.d_need_base p_need_base sp_need_base := by
  refine T.F_need_base.ok sc_need_base (fun vs H Q E h => ?_) (fun cdv A outer s H vs Q E hr h => ?_)
  · obtain ⟨_, rfl, _⟩ := h; rfl
  · obtain ⟨b, rfl, h1, h2, h⟩ := h
    refine ⟨_, (pss_one (ps_if (pt_not (pt_val (pe_call (ok_is_from T) (hr.mono (by decide)) rfl T.g_is_from T.F_is_from.kp T.b_is_from .nil pass0 (pa_cons (pv 0) (pa_cons (pe_globI rfl T.v_LEAST_BASE) (pa_cons (pe_globI rfl T.v_MOST_BASE) pa_nil)))))) (pss_one ps_never) pss_nil)), ?_⟩
    walk_at "g"
    exact h
-- @USE
local macro_rules | `(tactic| walk_at "c") => `(tactic| ((with_reducible refine use_need_base ?h1 ?h2 ?h3); (case h1 => omega); (case h2 => omega)))

/-! ### need_base_x -/
def sp_x_need_base (K : Frag) (Z : Adr) : Sp := fun vs H _ E => ∃ v, vs = [v] ∧ OutR K H v 2 16 ∧ E (.ref Z.c_BadBase) none H
theorem okX_need_base (T : Txt K mg Z) : FnOk P w K mg base (L2.CX P w) 3 Z.f_need_base Z.d_need_base p_need_base (sp_x_need_base K Z) := by
  refine T.F_need_base.okX sc_need_base (fun vs H Q E h => ?_) (fun cdv A outer s H vs Q E hr h => ?_)
  · obtain ⟨_, rfl, _⟩ := h; rfl
  · obtain ⟨v, rfl, hv, h⟩ := h
    refine ⟨_, (pss_one (ps_if (pt_not (pt_val (pe_call (okX_is_from T) (hr.mono (by decide)) rfl T.g_is_from T.F_is_from.kp T.b_is_from .nil pass0 (pa_cons (pv 0) (pa_cons (pe_globI rfl T.v_LEAST_BASE) (pa_cons (pe_globI rfl T.v_MOST_BASE) pa_nil)))))) (pss_one (ps_raise0 rfl (takes_of rfl rfl rfl rfl) T.ox_BadBase T.ix_BadBase T.tx_BadBase (ok_BadBase_init T) (hr.mono (by decide)) T.b_BadBase_init rfl T.g_BadBase)) pss_nil)), ?_⟩
    walk_at "g"
    refine use_x_is_from hv ?_
    walk_at "g"
    exact h

/-! ### need_number_x -/
def sp_x_need_number (K : Frag) (Z : Adr) : Sp := fun vs H _ E => ∃ v, vs = [v] ∧ OutR K H v (-(10 ^ 40)) (10 ^ 40) ∧ ∀ d, H d = none → E (.ref Z.c_BadNumber) (some d) (upd H d (.xd [("n", v)]))
theorem okX_need_number (T : Txt K mg Z) : FnOk P w K mg base (L2.CX P w) 3 Z.f_need_number Z.d_need_number p_need_number (sp_x_need_number K Z) := by
  refine T.F_need_number.okX sc_need_number (fun vs H Q E h => ?_) (fun cdv A outer s H vs Q E hr h => ?_)
  · obtain ⟨_, rfl, _⟩ := h; rfl
  · obtain ⟨v, rfl, hv, h⟩ := h
    refine ⟨_, (pss_one (ps_if (pt_not (pt_val (pe_call (okX_is_from T) (hr.mono (by decide)) rfl T.g_is_from T.F_is_from.kp T.b_is_from .nil pass0 (pa_cons (pv 0) (pa_cons (pe_un un_neg (pe_globI rfl T.v_MOST_NUMBER)) (pa_cons (pe_globI rfl T.v_MOST_NUMBER) pa_nil)))))) (pss_one (ps_raise1 rfl (takes_of rfl rfl rfl rfl) T.ox_BadNumber T.ix_BadNumber T.tx_BadNumber (ok_BadNumber_init T) (hr.mono (by decide)) T.b_BadNumber_init rfl T.g_BadNumber (pa_cons (pv 0) pa_nil))) pss_nil)), ?_⟩
    walk_at "g"
    refine use_x_is_from hv ?_
    walk_at "g"
    exact h

/-! ### need_divisor -/
def sp_need_divisor : Sp := fun vs H Q _ => ∃ d m : Int, vs = [.int d, .int m] ∧ 1 ≤ d ∧ d ≤ m ∧ Q .non H
theorem use_need_divisor {d m : Int} {H : Hp} {Q : VK} {E : XK} (h1 : 1 ≤ d) (h2 : d ≤ m) (h : Q .non H) : sp_need_divisor ([.int d, .int m] ++ []) H Q E := ⟨_, _, rfl, h1, h2, h⟩
theorem ok_need_divisor (T : Txt K mg Z) : FnOk P w K mg base CX0 2 Z.f_need_divisor Z.d_need_divisor p_need_divisor sp_need_divisor := by
  refine T.F_need_divisor.ok sc_need_divisor (fun vs H Q E h => ?_) (fun cdv A outer s H vs Q E hr h => ?_)
  · obtain ⟨_, _, rfl, _⟩ := h; rfl
  · obtain ⟨d, m, rfl, h1, h2, h⟩ := h
    refine ⟨_, (pss_one (ps_if (pt_not (pt_val (pe_call (ok_is_from T) (hr.mono (by decide)) rfl T.g_is_from T.F_is_from.kp T.b_is_from .nil pass0 (pa_cons (pv 0) (pa_cons pe_int (pa_cons (pv 1) pa_nil)))))) (pss_one ps_never) pss_nil)), ?_⟩
    walk_at "g"
    exact h
-- @USE
local macro_rules | `(tactic| walk_at "c") => `(tactic| ((with_reducible refine use_need_divisor ?h1 ?h2 ?h3); (case h1 => omega); (case h2 => omega)))

/-! ### need_divisor_x -/
def sp_x_need_divisor (K : Frag) (Z : Adr) : Sp := fun vs H _ E => ∃ (v : V) (m : Int), vs = [v, .int m] ∧ OutR K H v 1 m ∧ E (.ref Z.c_BadDivisor) none H
theorem okX_need_divisor (T : Txt K mg Z) : FnOk P w K mg base (L2.CX P w) 3 Z.f_need_divisor Z.d_need_divisor p_need_divisor (sp_x_need_divisor K Z) := by
  refine T.F_need_divisor.okX sc_need_divisor (fun vs H Q E h => ?_) (fun cdv A outer s H vs Q E hr h => ?_)
  · obtain ⟨_, _, rfl, _⟩ := h; rfl
  · obtain ⟨v, m, rfl, hv, h⟩ := h
    refine ⟨_, (pss_one (ps_if (pt_not (pt_val (pe_call (okX_is_from T) (hr.mono (by decide)) rfl T.g_is_from T.F_is_from.kp T.b_is_from .nil pass0 (pa_cons (pv 0) (pa_cons pe_int (pa_cons (pv 1) pa_nil)))))) (pss_one (ps_raise0 rfl (takes_of rfl rfl rfl rfl) T.ox_BadDivisor T.ix_BadDivisor T.tx_BadDivisor (ok_BadDivisor_init T) (hr.mono (by decide)) T.b_BadDivisor_init rfl T.g_BadDivisor)) pss_nil)), ?_⟩
    walk_at "g"
    refine use_x_is_from hv ?_
    walk_at "g"
    exact h

/-! ### figures_x -/
def sp_x_figures (K : Frag) (Z : Adr) : Sp := fun vs H _ E => ∃ v0 v1 : V, vs = [v0, v1] ∧ ((OutR K H v0 0 (10 ^ 40) ∧ (∀ d, H d = none → E (.ref Z.c_BadNumber) (some d) (upd H d (.xd [("n", v0)])))) ∨
  ((∃ i0 : Int, v0 = .int i0 ∧ 0 ≤ i0 ∧ i0 ≤ 10 ^ 40) ∧ OutR K H v1 2 16 ∧ (E (.ref Z.c_BadBase) none H)))
theorem okX_figures (T : Txt K mg Z) : FnOk P w K mg base (L2.CX P w) 4 Z.f_figures Z.d_figures p_figures (sp_x_figures K Z) := by
  refine T.F_figures.okX sc_figures (fun vs H Q E h => ?_) (fun cdv A outer s H vs Q E hr h => ?_)
  · obtain ⟨_, _, rfl, _⟩ := h; rfl
  · obtain ⟨v0, v1, rfl, h⟩ := h
    rcases h with ⟨hb, h⟩ | ⟨⟨i0, rfl, g0, g0'⟩, hb, h⟩
    · refine ⟨_, (pss_cons (ps_if (pt_not (pt_val (pe_call (okX_is_from T) (hr.mono (by decide)) rfl T.g_is_from T.F_is_from.kp T.b_is_from .nil pass0 (pa_cons (pv 0) (pa_cons pe_int (pa_cons (pe_globI rfl T.v_MOST_NUMBER) pa_nil)))))) (pss_one (ps_raise1 rfl (takes_of rfl rfl rfl rfl) T.ox_BadNumber T.ix_BadNumber T.tx_BadNumber (ok_BadNumber_init T) (hr.mono (by decide)) T.b_BadNumber_init rfl T.g_BadNumber (pa_cons (pv 0) pa_nil))) pss_nil)
    pss_never), ?_⟩
      walk_at "g"
      refine use_x_is_from hb ?_
      walk_at "g"
      exact h
    · refine ⟨_, (pss_cons (ps_if (pt_not (pt_val (pe_call (ok_is_from T) (hr.mono (by decide)) rfl T.g_is_from T.F_is_from.kp T.b_is_from .nil pass0 (pa_cons (pv 0) (pa_cons pe_int (pa_cons (pe_globI rfl T.v_MOST_NUMBER) pa_nil)))))) (pss_one ps_never) pss_nil)
    (pss_cons (ps_expr (pe_call (okX_need_base T) (hr.mono (by decide)) rfl T.g_need_base T.F_need_base.kp T.b_need_base .nil (passes_call (takes_of rfl rfl rfl rfl) (fun _ _ _ _ h => h)) (pa_cons (pv 1) pa_nil)))
    pss_never)), ?_⟩
      walk_at "g"
      exact ⟨_, rfl, hb, h⟩

/-! ### number_x -/
def FigOk (b : Int) (x : V) : Prop := ∃ i, x = .int i ∧ 0 ≤ i ∧ i ≤ b - 1
def sp_x_number (K : Frag) (Z : Adr) : Sp := fun vs H _ E => ∃ v b : V, vs = [v, b] ∧ ((OutR K H b 2 16 ∧ E (.ref Z.c_BadBase) none H) ∨
  ∃ bi, b = .int bi ∧ (2 ≤ bi ∧ bi ≤ 16) ∧ ((NoTup K H v 1 150 ∧ ∀ d, H d = none → E (.ref Z.c_BadFigures) (some d) (upd H d (.xd [("index", .non)]))) ∨
    ∃ (p : Addr) (xs : List V) (n : Nat) (w : V), v = .ref p ∧ H p = some (.tup xs) ∧ (1 ≤ xs.length ∧ xs.length ≤ 150) ∧ WrongAt xs n w (FigOk bi) ∧ OutR K H w 0 (bi - 1) ∧
      ∀ d H1, Same H H1 → H1 d = none → E (.ref Z.c_BadFigures) (some d) (upd H1 d (.xd [("index", .int (n : Int))]))))
theorem okX_number (T : Txt K mg Z) : FnOk P w K mg base (L2.CX P w) 4 Z.f_number Z.d_number p_number (sp_x_number K Z) := by
  refine T.F_number.okX sc_number (fun vs H Q E h => ?_) (fun cdv A outer s H vs Q E hr h => ?_)
  · obtain ⟨_, _, rfl, _⟩ := h; rfl
  · obtain ⟨v, b, rfl, h⟩ := h
    rcases h with ⟨hb, h⟩ | ⟨bi, rfl, ⟨hb1, hb2⟩, ⟨hv, h⟩ | ⟨p, xs, n, w', rfl, hp, ⟨hl1, hl2⟩, hw, ho, h⟩⟩
    · refine ⟨_, (pss_cons (ps_expr (pe_call (okX_need_base T) (hr.mono (by decide)) rfl T.g_need_base T.F_need_base.kp T.b_need_base .nil (passes_call (takes_of rfl rfl rfl rfl) (fun _ _ _ _ h => h)) (pa_cons (pv 1) pa_nil)))
    pss_never), ?_⟩
      walk_at "g"
      exact ⟨_, rfl, hb, h⟩
    · refine ⟨_, (pss_cons (ps_expr (pe_call (ok_need_base T) (hr.mono (by decide)) rfl T.g_need_base T.F_need_base.kp T.b_need_base .nil pass0 (pa_cons (pv 1) pa_nil)))
    (pss_cons (ps_if (PW.pt (pw_or (pt_not (pt_val (pe_callB (r := rIsi K) call_isi (by rfl) T.n_isinstance boot_isinstance (pa_cons (pv 0) (pa_cons (pe_bltn (v := .ty "tuple") (by rfl) T.n_tuple boot_tuple rfl) pa_nil))))) (pw_or1 (pt_not (pt_chain op_le op_le pe_int (pe_callB (r := R.rLen K) call_lenR (by rfl) T.n_len boot_len (pa_cons (pv 0) pa_nil)) (pe_globI rfl T.v_MOST_FIGURES)))))) (pss_one (ps_raise1 rfl (takes_of rfl rfl rfl rfl) T.ox_BadFigures T.ix_BadFigures T.tx_BadFigures (ok_BadFigures_init T) (hr.mono (by decide)) T.b_BadFigures_init rfl T.g_BadFigures (pa_cons pe_non pa_nil))) pss_nil)
    pss_never)), ?_⟩
      rcases hv with hv | ⟨p, xs, rfl, hp, hn⟩
      · walk_at "g"
        refine a_isiNT hv ?_
        walk_at "g"
        exact h
      · have hpT : SqT K H p xs := SqT.of hp
        walk_at "g"
        refine a_isiT1 hp ?_
        walk_at "g"
        refine a_it2 (fun c => ?_) (fun c => ?_)
        · walk_at "g"
          exact h
        · walk_at "g"
          exact h
    · have O := Own.refl H
      have hpT : SqT K H p xs := SqT.of hp
      refine ⟨_, (pss_cons (ps_expr (pe_call (ok_need_base T) (hr.mono (by decide)) rfl T.g_need_base T.F_need_base.kp T.b_need_base .nil pass0 (pa_cons (pv 1) pa_nil)))
    (pss_cons (ps_if (PW.pt (pw_or (pt_not (pt_val (pe_callB (r := rIsi K) call_isi (by rfl) T.n_isinstance boot_isinstance (pa_cons (pv 0) (pa_cons (pe_bltn (v := .ty "tuple") (by rfl) T.n_tuple boot_tuple rfl) pa_nil))))) (pw_or1 (pt_not (pt_chain op_le op_le pe_int (pe_callB (r := R.rLen K) call_lenR (by rfl) T.n_len boot_len (pa_cons (pv 0) pa_nil)) (pe_globI rfl T.v_MOST_FIGURES)))))) (pss_one ps_never) pss_nil)
    (pss_cons (ps_set (i := 2) sc_number.nd rfl (Or.inl rfl) pe_int)
    (pss_cons (ps_for (passes_of rfl) rfl (pi_enumT rfl T.n_enumerate (pa_cons (pv 0) pa_nil)) (pg_tup rfl (pgs_cons (pg_name (i := 3) sc_number.nd rfl (Or.inl rfl)) (pgs_cons (pg_name (i := 4) sc_number.nd rfl (Or.inl rfl)) pgs_nil)))
    (pss_cons (ps_if (pt_not (pt_val (pe_call (okX_is_from T) (hr.mono (by decide)) rfl T.g_is_from T.F_is_from.kp T.b_is_from .nil pass0 (pa_cons (pv 4) (pa_cons pe_int (pa_cons (pe_op op_sub (pv 1) pe_int) pa_nil)))))) (pss_one (ps_raise1 rfl (takes_of rfl rfl rfl rfl) T.ox_BadFigures T.ix_BadFigures T.tx_BadFigures (ok_BadFigures_init T) (hr.mono (by decide)) T.b_BadFigures_init rfl T.g_BadFigures (pa_cons (pv 3) pa_nil))) pss_nil)
    (pss_one (ps_set (i := 2) sc_number.nd rfl (Or.inl rfl) (pe_op op_add (pe_op op_mulX (pv 2) (pv 1)) (pv 4))))))
    pss_never)))), ?_⟩
      walk_at "g"
      refine a_isiT1 hp ?_
      walk_at "g"
      refine ⟨p, _, rfl, SqT.of hp, ?_⟩
      refine for_it walk_enumT (fun i σ H' => i ≤ n ∧ ∃ f v3 v4 Lw, σ = [some (.ref p), some (.int bi), some (.int f), v3, v4] ∧ Own H Lw H') ⟨Nat.zero_le _, _, _, _, _, rfl, O⟩ (fun i σ H' _ ⟨_, _, _, _, _, _, O⟩ => SqT.of (O.st _ _ hp)) ?_ ?_
      · clear O
        rintro i v σ H' H'' hi ⟨hin, f, v3, v4, Lw, rfl, O⟩ ⟨t, y1, y2, rfl, ht, rfl, e1, e2⟩
        have O := Own.new (o := .tup [y1, y2]) O ht
        have e1 : y1 = .int i := (Option.some.inj e1).symm
        have e2 : xs[i]? = some y2 := e2
        subst e1
        walk_at "g"
        by_cases c : i < n
        · obtain ⟨y, rfl, c1, c2⟩ := hw.2 i y2 c e2
          walk_at "g"
          refine use_x_is_from_ok ⟨c1, c2⟩ ?_
          walk_at "g"
          exact ⟨by omega, _, _, _, _, rfl, O⟩
        · have e : i = n := by omega
          subst e
          rw [hw.1] at e2
          cases e2
          refine use_x_is_from (ho.same O.st) ?_
          walk_at "g"
          exact fun d hd => h d _ O.st hd
      · rintro σ H' ⟨hin, _⟩
        exact absurd (List.getElem?_eq_some_iff.mp hw.1).1 (by omega)

/-! ### power -/
def sp_power : Sp := fun vs H Q _ => ∃ b m : Int, vs = [.int b, .int m] ∧ -(2 ^ 62) ≤ m ∧ m < 2 ^ 62 ∧ -(2 ^ 64) < b ∧ b < 2 ^ 64 ∧ Q (.int (b ^ m.toNat)) H
theorem use_power {b m : Int} {H : Hp} {Q : VK} {E : XK} (h1 : -(2 ^ 62) ≤ m ∧ m < 2 ^ 62 ∧ -(2 ^ 64) < b ∧ b < 2 ^ 64) (h : Q (.int (b ^ m.toNat)) H) : sp_power ([.int b, .int m] ++ []) H Q E := ⟨_, _, rfl, h1.1, h1.2.1, h1.2.2.1, h1.2.2.2, h⟩
theorem ok_power (T : Txt K mg Z) : FnOk P w K mg base CX0 1 Z.f_power Z.d_power p_power sp_power := by
  refine T.F_power.ok sc_power (fun vs H Q E h => ?_) (fun cdv A outer s H vs Q E hr h => ?_)
  · obtain ⟨_, _, rfl, _⟩ := h; rfl
  · obtain ⟨b, m, rfl, h1, h2, h3, h4, h⟩ := h
    refine ⟨_, (pss_cons (ps_set (i := 2) sc_power.nd rfl (Or.inl rfl) pe_int)
    (pss_cons (ps_for PassesOwn.never rfl (pi_range1 rfl T.n_range (pa_cons (pv 1) pa_nil)) (pg_name (i := 3) sc_power.nd rfl (Or.inl rfl))
    (pss_one (ps_set (i := 2) sc_power.nd rfl (Or.inl rfl) (pe_op op_mulX (pv 2) (pv 0)))))
    (pss_one (ps_ret (pv 2))))), ?_⟩
    walk_at "g"
    refine for_range (fun i σ H' => H' = H ∧ ∃ v, σ = [some (.int b), some (.int m), some (.int (b ^ i)), v]) ⟨rfl, none, by rw [Int.pow_zero]; rfl⟩ ?_ ?_
    · rintro i σ H' hi ⟨rfl, v, rfl⟩
      walk_at "g"
      exact ⟨rfl, _, by rw [Int.pow_succ]; rfl⟩
    · rintro σ H' ⟨rfl, v, rfl⟩
      walk_at "g"
      exact h
-- @USE
local macro_rules | `(tactic| walk_at "c") => `(tactic| ((with_reducible refine use_power ?h1 ?h2); (case h1 => omega)))

/-! ### Trick_init -/
/-- the fields of a trick -/
def trickF (b k t : Int) : List (Str × V) := [("basis", .int b), ("many", .int k), ("factor", .int t), ("block", .int (b ^ k.toNat))]
def TrickOk (b k t : Int) : Prop := (2 ≤ b ∧ b ≤ 16) ∧ (1 ≤ k ∧ k ≤ 2) ∧ -100 ≤ t ∧ t ≤ 100
def TrickAt (Z : Adr) (H : Hp) (a : Addr) (b k t : Int) : Prop := TrickOk b k t ∧ ∃ dx, H a = some (.ins Z.c_Trick dx (trickF b k t))
theorem TrickAt.up {B H : Hp} {Lw : List (Addr × HO)} {a : Addr} {b k t : Int} (O : Own B Lw H) (h : TrickAt Z B a b k t) : TrickAt Z H a b k t := by
  obtain ⟨h1, dx, h2⟩ := h
  exact ⟨h1, dx, O.st _ _ h2⟩
theorem TrickAt.same {B H : Hp} {a : Addr} {b k t : Int} (s : Same B H) (h : TrickAt Z B a b k t) : TrickAt Z H a b k t := by
  obtain ⟨h1, dx, h2⟩ := h
  exact ⟨h1, dx, s _ _ h2⟩
theorem block_small {b k : Int} (hb : 2 ≤ b ∧ b ≤ 16) (hk : 1 ≤ k ∧ k ≤ 2) : 2 ≤ b ^ k.toNat ∧ b ^ k.toNat ≤ 256 := by
  have e : k = 1 ∨ k = 2 := by omega
  rcases e with rfl | rfl
  · have z : b ^ (1 : Int).toNat = b := by rw [show (1 : Int).toNat = 1 from rfl, Int.pow_succ, Int.pow_zero, Int.one_mul]
    rw [z]; omega
  · have z : b ^ (2 : Int).toNat = b * b := by rw [show (2 : Int).toNat = 2 from rfl, Int.pow_succ, Int.pow_succ, Int.pow_zero, Int.one_mul]
    rw [z]
    have h1 : b * 2 ≤ b * b := Int.mul_le_mul_of_nonneg_left hb.1 (by omega)
    have h2 : b * b ≤ 16 * 16 := Int.mul_le_mul hb.2 hb.2 (by omega) (by omega)
    omega
theorem get_block {H : Hp} {a : Addr} {b k t : Int} {Q : VK} (T : Txt K mg Z) (h : TrickAt Z H a b k t) (q : Q (.int (b ^ k.toNat)) H) : rFld K "block" (.ref a) H Q := by
  obtain ⟨_, dx, h⟩ := h
  refine a_getF h T.cl_Trick T.nf_Trick_block ?_ q
  unfold trickF
  rw [lk_ne (by decide +kernel), lk_ne (by decide +kernel), lk_ne (by decide +kernel), lk_eq]
theorem get_factor {H : Hp} {a : Addr} {b k t : Int} {Q : VK} (T : Txt K mg Z) (h : TrickAt Z H a b k t) (q : Q (.int t) H) : rFld K "factor" (.ref a) H Q := by
  obtain ⟨_, dx, h⟩ := h
  refine a_getF h T.cl_Trick T.nf_Trick_factor ?_ q
  unfold trickF
  rw [lk_ne (by decide +kernel), lk_ne (by decide +kernel), lk_eq]
theorem get_many {H : Hp} {a : Addr} {b k t : Int} {Q : VK} (T : Txt K mg Z) (h : TrickAt Z H a b k t) (q : Q (.int k) H) : rFld K "many" (.ref a) H Q := by
  obtain ⟨_, dx, h⟩ := h
  refine a_getF h T.cl_Trick T.nf_Trick_many ?_ q
  unfold trickF
  rw [lk_ne (by decide +kernel), lk_eq]
theorem get_basis {H : Hp} {a : Addr} {b k t : Int} {Q : VK} (T : Txt K mg Z) (h : TrickAt Z H a b k t) (q : Q (.int b) H) : rFld K "basis" (.ref a) H Q := by
  obtain ⟨_, dx, h⟩ := h
  refine a_getF h T.cl_Trick T.nf_Trick_basis ?_ q
  unfold trickF
  rw [lk_eq]
def sp_Trick_init (C : Addr) : Sp := fun vs H Q _ => ∃ (x dx : Addr) (b k t : Int), vs = [.ref x, .int b, .int k, .int t] ∧ H x = some (.ins C dx []) ∧ TrickOk b k t ∧
  ∀ H', (∀ q v, q ≠ x → H q = some v → H' q = some v) → H' x = some (.ins C dx (trickF b k t)) → Q .non H'
theorem use_Trick {B H : Hp} {Lw : List (Addr × HO)} {b k t : Int} {Q : VK} {E : XK} (O : Own B Lw H) (hk : TrickOk b k t) (h : ∀ x B' H', B x = none → Same B B' → Own B' Lw H' → TrickAt Z B' x b k t → Q (.ref x) H') : NewI Z.c_Trick (sp_Trick_init Z.c_Trick) [] E [.int b, .int k, .int t] H Q := by
  intro x dx hx hdx ne
  have O1 := Own.new (o := .own x) O hdx
  have hx1 : upd H dx (.own x) x = none := by rw [upd_ne ne.symm]; exact hx
  have O2 := Own.new (o := .ins Z.c_Trick dx []) O1 hx1
  refine ⟨x, dx, b, k, t, rfl, upd_same, hk, fun H' k1 h1 => ⟨rfl, ?_⟩⟩
  have O3 : Own B ((x, .ins Z.c_Trick dx (trickF b k t)) :: (dx, .own x) :: Lw) H' := O2.but 0 rfl k1 h1
  exact h x _ H' (O.free hx) (O3.swap.fixS.trans O3.swap.fix.fixS) O3.swap.fix.fix ⟨hk, dx, upd_same⟩
theorem ok_Trick_init (T : Txt K mg Z) : FnOk P w K mg base CX0 3 Z.f_Trick_init Z.d_Trick_init p_Trick_init (sp_Trick_init Z.c_Trick) := by
  refine T.F_Trick_init.ok sc_Trick_init (fun vs H Q E h => ?_) (fun cdv A outer s H vs Q E hr h => ?_)
  · obtain ⟨_, _, _, _, _, rfl, _⟩ := h; rfl
  · obtain ⟨x, dx, b, k, t, rfl, hx, ⟨⟨hb1, hb2⟩, ⟨hk1, hk2⟩, ht1, ht2⟩, h⟩ := h
    have O := Own.refl1 hx
    refine ⟨_, (pss_cons (ps_expr (pe_call (ok_need_base T) (hr.mono (by decide)) rfl T.g_need_base T.F_need_base.kp T.b_need_base .nil pass0 (pa_cons (pv 1) pa_nil)))
    (pss_cons (ps_if (pt_not (pt_val (pe_call (ok_is_from T) (hr.mono (by decide)) rfl T.g_is_from T.F_is_from.kp T.b_is_from .nil pass0 (pa_cons (pv 2) (pa_cons pe_int (pa_cons (pe_globI rfl T.v_MOST_TAKE) pa_nil)))))) (pss_one ps_never) pss_nil)
    (pss_cons (ps_if (pt_not (pt_val (pe_call (ok_is_from T) (hr.mono (by decide)) rfl T.g_is_from T.F_is_from.kp T.b_is_from .nil pass0 (pa_cons (pv 3) (pa_cons (pe_un un_neg (pe_globI rfl T.v_MOST_TIMES)) (pa_cons (pe_globI rfl T.v_MOST_TIMES) pa_nil)))))) (pss_one ps_never) pss_nil)
    (pss_cons (ps_fld (pv 0) (pv 1) rfl)
    (pss_cons (ps_fld (pv 0) (pv 2) rfl)
    (pss_cons (ps_fld (pv 0) (pv 3) rfl)
    (pss_one (ps_fld (pv 0) (pe_call (ok_power T) (hr.mono (by decide)) rfl T.g_power T.F_power.kp T.b_power .nil pass0 (pa_cons (pv 1) (pa_cons (pv 2) pa_nil))) rfl)))))))), ?_⟩
    have n1 : ¬ ("basis" : Str) = "many" := by decide +kernel
    have n2 : ¬ ("basis" : Str) = "factor" := by decide +kernel
    have n3 : ¬ ("many" : Str) = "factor" := by decide +kernel
    have n4 : ¬ ("basis" : Str) = "block" := by decide +kernel
    have n5 : ¬ ("many" : Str) = "block" := by decide +kernel
    have n6 : ¬ ("factor" : Str) = "block" := by decide +kernel
    walk_at "g"
    refine a_setF O 0 rfl T.cl_Trick T.nf_Trick_basis (Nat.lt_of_le_of_lt (Nat.le_refl 0) (by decide)) (fun H1 O => ?_)
    simp only [List.set, put_nil] at O
    walk_at "g"
    refine a_setF O 0 rfl T.cl_Trick T.nf_Trick_many (Nat.lt_of_le_of_lt (Nat.le_refl 1) (by decide)) (fun H2 O => ?_)
    simp only [List.set, put_ne n1, put_nil] at O
    walk_at "g"
    refine a_setF O 0 rfl T.cl_Trick T.nf_Trick_factor (Nat.lt_of_le_of_lt (Nat.le_refl 2) (by decide)) (fun H3 O => ?_)
    simp only [List.set, put_ne n2, put_ne n3, put_nil] at O
    walk_at "g"
    refine a_setF O 0 rfl T.cl_Trick T.nf_Trick_block (Nat.lt_of_le_of_lt (Nat.le_refl 3) (by decide)) (fun H4 O => ?_)
    simp only [List.set, put_ne n4, put_ne n5, put_ne n6, put_nil] at O
    exact h _ (Own.toBut O) (O.get 0 rfl)
-- @USE
local macro_rules | `(tactic| walk_at "tr") => `(tactic| first | assumption | (refine' TrickAt.up ?k1 ?k2; (case k1 => assumption); (case k2 => assumption)))
local macro_rules | `(tactic| walk_at "c") => `(tactic| first
  | ((with_reducible refine' get_block ?k1 ?k2 ?k3); (case k1 => assumption); (case k2 => walk_at "tr"))
  | ((with_reducible refine' get_factor ?k1 ?k2 ?k3); (case k1 => assumption); (case k2 => walk_at "tr"))
  | ((with_reducible refine' get_many ?k1 ?k2 ?k3); (case k1 => assumption); (case k2 => walk_at "tr"))
  | ((with_reducible refine' get_basis ?k1 ?k2 ?k3); (case k1 => assumption); (case k2 => walk_at "tr")))

/-! ### Trick_init_x -/
def sp_x_Trick_init (K : Frag) (Z : Adr) : Sp := fun vs H _ E => ∃ v0 v1 v2 v3 : V, vs = [v0, v1, v2, v3] ∧ ((OutR K H v1 2 16 ∧ (E (.ref Z.c_BadBase) none H)) ∨
  ((∃ i1 : Int, v1 = .int i1 ∧ 2 ≤ i1 ∧ i1 ≤ 16) ∧ OutR K H v2 1 2 ∧ (E (.ref Z.c_BadTake) none H)) ∨
  ((∃ i1 : Int, v1 = .int i1 ∧ 2 ≤ i1 ∧ i1 ≤ 16) ∧ (∃ i2 : Int, v2 = .int i2 ∧ 1 ≤ i2 ∧ i2 ≤ 2) ∧ OutR K H v3 (-100) 100 ∧ (E (.ref Z.c_BadTimes) none H)))
theorem okX_Trick_init (T : Txt K mg Z) : FnOk P w K mg base (L2.CX P w) 4 Z.f_Trick_init Z.d_Trick_init p_Trick_init (sp_x_Trick_init K Z) := by
  refine T.F_Trick_init.okX sc_Trick_init (fun vs H Q E h => ?_) (fun cdv A outer s H vs Q E hr h => ?_)
  · obtain ⟨_, _, _, _, rfl, _⟩ := h; rfl
  · obtain ⟨v0, v1, v2, v3, rfl, h⟩ := h
    rcases h with ⟨hb, h⟩ | ⟨⟨i1, rfl, g1, g1'⟩, hb, h⟩ | ⟨⟨i1, rfl, g1, g1'⟩, ⟨i2, rfl, g2, g2'⟩, hb, h⟩
    · refine ⟨_, (pss_cons (ps_expr (pe_call (okX_need_base T) (hr.mono (by decide)) rfl T.g_need_base T.F_need_base.kp T.b_need_base .nil (passes_call (takes_of rfl rfl rfl rfl) (fun _ _ _ _ h => h)) (pa_cons (pv 1) pa_nil)))
    pss_never), ?_⟩
      walk_at "g"
      exact ⟨_, rfl, hb, h⟩
    · refine ⟨_, (pss_cons (ps_expr (pe_call (ok_need_base T) (hr.mono (by decide)) rfl T.g_need_base T.F_need_base.kp T.b_need_base .nil pass0 (pa_cons (pv 1) pa_nil)))
    (pss_cons (ps_if (pt_not (pt_val (pe_call (okX_is_from T) (hr.mono (by decide)) rfl T.g_is_from T.F_is_from.kp T.b_is_from .nil pass0 (pa_cons (pv 2) (pa_cons pe_int (pa_cons (pe_globI rfl T.v_MOST_TAKE) pa_nil)))))) (pss_one (ps_raise0 rfl (takes_of rfl rfl rfl rfl) T.ox_BadTake T.ix_BadTake T.tx_BadTake (ok_BadTake_init T) (hr.mono (by decide)) T.b_BadTake_init rfl T.g_BadTake)) pss_nil)
    pss_never)), ?_⟩
      walk_at "g"
      refine use_x_is_from hb ?_
      walk_at "g"
      exact h
    · refine ⟨_, (pss_cons (ps_expr (pe_call (ok_need_base T) (hr.mono (by decide)) rfl T.g_need_base T.F_need_base.kp T.b_need_base .nil pass0 (pa_cons (pv 1) pa_nil)))
    (pss_cons (ps_if (pt_not (pt_val (pe_call (ok_is_from T) (hr.mono (by decide)) rfl T.g_is_from T.F_is_from.kp T.b_is_from .nil pass0 (pa_cons (pv 2) (pa_cons pe_int (pa_cons (pe_globI rfl T.v_MOST_TAKE) pa_nil)))))) (pss_one ps_never) pss_nil)
    (pss_cons (ps_if (pt_not (pt_val (pe_call (okX_is_from T) (hr.mono (by decide)) rfl T.g_is_from T.F_is_from.kp T.b_is_from .nil pass0 (pa_cons (pv 3) (pa_cons (pe_un un_neg (pe_globI rfl T.v_MOST_TIMES)) (pa_cons (pe_globI rfl T.v_MOST_TIMES) pa_nil)))))) (pss_one (ps_raise0 rfl (takes_of rfl rfl rfl rfl) T.ox_BadTimes T.ix_BadTimes T.tx_BadTimes (ok_BadTimes_init T) (hr.mono (by decide)) T.b_BadTimes_init rfl T.g_BadTimes)) pss_nil)
    pss_never))), ?_⟩
      walk_at "g"
      refine use_x_is_from hb ?_
      walk_at "g"
      exact h

/-! ### need_trick -/
-- @NEEDS Trick_init
def sp_need_trick (Z : Adr) : Sp := fun vs H Q _ => ∃ (a : Addr) (b k t : Int), vs = [.ref a] ∧ TrickAt Z H a b k t ∧ Q .non H
theorem use_need_trick {a : Addr} {b k t : Int} {H : Hp} {Q : VK} {E : XK} (h1 : TrickAt Z H a b k t) (h : Q .non H) : sp_need_trick Z ([.ref a] ++ []) H Q E := ⟨a, b, k, t, rfl, h1, h⟩
theorem ok_need_trick (T : Txt K mg Z) : FnOk P w K mg base CX0 1 Z.f_need_trick Z.d_need_trick p_need_trick (sp_need_trick Z) := by
  refine T.F_need_trick.ok sc_need_trick (fun vs H Q E h => ?_) (fun cdv A outer s H vs Q E hr h => ?_)
  · obtain ⟨_, _, _, _, rfl, _⟩ := h; rfl
  · obtain ⟨a, b, k, t, rfl, ha, h⟩ := h
    refine ⟨_, (pss_one (ps_if (pt_not (pt_val (pe_callB (r := rIsi K) call_isi (by rfl) T.n_isinstance boot_isinstance (pa_cons (pv 0) (pa_cons (pe_glob rfl T.g_Trick (v := .ref Z.c_Trick) rfl) pa_nil))))) (pss_one ps_never) pss_nil)), ?_⟩
    walk_at "g"
    obtain ⟨_, dx, h2⟩ := ha
    refine ⟨_, _, _, _, true, rfl, .own _, .base (.ins h2 T.is_Trick.cl T.is_Trick.ha T.is_Trick.hn T.is_Trick.htk T.is_Trick.hm), T.is_Trick.me, ?_⟩
    walk_at "g"
    exact h
-- @USE
local macro_rules | `(tactic| walk_at "c") => `(tactic| ((with_reducible refine' use_need_trick ?k1 ?k2); (case k1 => walk_at "tr")))

/-! ### need_trick_x -/
def sp_x_need_trick (K : Frag) (Z : Adr) : Sp := fun vs H _ E => ∃ v, vs = [v] ∧ NoI K H v ∧ E (.ref Z.c_BadTrick) none H
theorem okX_need_trick (T : Txt K mg Z) : FnOk P w K mg base (L2.CX P w) 3 Z.f_need_trick Z.d_need_trick p_need_trick (sp_x_need_trick K Z) := by
  refine T.F_need_trick.okX sc_need_trick (fun vs H Q E h => ?_) (fun cdv A outer s H vs Q E hr h => ?_)
  · obtain ⟨_, rfl, _⟩ := h; rfl
  · obtain ⟨v, rfl, hv, h⟩ := h
    refine ⟨_, (pss_one (ps_if (pt_not (pt_val (pe_callB (r := rIsi K) call_isi (by rfl) T.n_isinstance boot_isinstance (pa_cons (pv 0) (pa_cons (pe_glob rfl T.g_Trick (v := .ref Z.c_Trick) rfl) pa_nil))))) (pss_one (ps_raise0 rfl (takes_of rfl rfl rfl rfl) T.ox_BadTrick T.ix_BadTrick T.tx_BadTrick (ok_BadTrick_init T) (hr.mono (by decide)) T.b_BadTrick_init rfl T.g_BadTrick)) pss_nil)), ?_⟩
    walk_at "g"
    refine a_isiC T.ty_Trick hv ?_
    walk_at "g"
    exact h

/-! ### done_x -/
-- @NEEDS Trick_init
def sp_x_done (K : Frag) (Z : Adr) : Sp := fun vs H _ E => ∃ v0 v1 : V, vs = [v0, v1] ∧ ((NoI K H v0 ∧ (E (.ref Z.c_BadTrick) none H)) ∨
  ((∃ a0 b0 k0 t0, v0 = .ref a0 ∧ TrickAt Z H a0 b0 k0 t0) ∧ OutR K H v1 (-(10 ^ 40)) (10 ^ 40) ∧ (∀ d, H d = none → E (.ref Z.c_BadNumber) (some d) (upd H d (.xd [("n", v1)])))))
theorem okX_done (T : Txt K mg Z) : FnOk P w K mg base (L2.CX P w) 4 Z.f_done Z.d_done p_done (sp_x_done K Z) := by
  refine T.F_done.okX sc_done (fun vs H Q E h => ?_) (fun cdv A outer s H vs Q E hr h => ?_)
  · obtain ⟨_, _, rfl, _⟩ := h; rfl
  · obtain ⟨v0, v1, rfl, h⟩ := h
    rcases h with ⟨hb, h⟩ | ⟨⟨a0, b0, k0, t0, rfl, ht0⟩, hb, h⟩
    · refine ⟨_, (pss_cons (ps_expr (pe_call (okX_need_trick T) (hr.mono (by decide)) rfl T.g_need_trick T.F_need_trick.kp T.b_need_trick .nil (passes_call (takes_of rfl rfl rfl rfl) (fun _ _ _ _ h => h)) (pa_cons (pv 0) pa_nil)))
    pss_never), ?_⟩
      walk_at "g"
      exact ⟨_, rfl, hb, h⟩
    · refine ⟨_, (pss_cons (ps_expr (pe_call (ok_need_trick T) (hr.mono (by decide)) rfl T.g_need_trick T.F_need_trick.kp T.b_need_trick .nil pass0 (pa_cons (pv 0) pa_nil)))
    (pss_cons (ps_expr (pe_call (okX_need_number T) (hr.mono (by decide)) rfl T.g_need_number T.F_need_number.kp T.b_need_number .nil (passes_call (takes_of rfl rfl rfl rfl) (fun _ _ _ _ h => h)) (pa_cons (pv 1) pa_nil)))
    pss_never)), ?_⟩
      walk_at "g"
      exact ⟨_, rfl, hb, h⟩

/-! ### tells_x -/
-- @NEEDS Trick_init
def sp_x_tells (K : Frag) (Z : Adr) : Sp := fun vs H _ E => ∃ v0 v1 : V, vs = [v0, v1] ∧ ((NoI K H v0 ∧ (E (.ref Z.c_BadTrick) none H)) ∨
  ((∃ a0 b0 k0 t0, v0 = .ref a0 ∧ TrickAt Z H a0 b0 k0 t0) ∧ OutR K H v1 1 100 ∧ (E (.ref Z.c_BadDivisor) none H)))
theorem okX_tells (T : Txt K mg Z) : FnOk P w K mg base (L2.CX P w) 4 Z.f_tells Z.d_tells p_tells (sp_x_tells K Z) := by
  refine T.F_tells.okX sc_tells (fun vs H Q E h => ?_) (fun cdv A outer s H vs Q E hr h => ?_)
  · obtain ⟨_, _, rfl, _⟩ := h; rfl
  · obtain ⟨v0, v1, rfl, h⟩ := h
    rcases h with ⟨hb, h⟩ | ⟨⟨a0, b0, k0, t0, rfl, ht0⟩, hb, h⟩
    · refine ⟨_, (pss_cons (ps_expr (pe_call (okX_need_trick T) (hr.mono (by decide)) rfl T.g_need_trick T.F_need_trick.kp T.b_need_trick .nil (passes_call (takes_of rfl rfl rfl rfl) (fun _ _ _ _ h => h)) (pa_cons (pv 0) pa_nil)))
    pss_never), ?_⟩
      walk_at "g"
      exact ⟨_, rfl, hb, h⟩
    · refine ⟨_, (pss_cons (ps_expr (pe_call (ok_need_trick T) (hr.mono (by decide)) rfl T.g_need_trick T.F_need_trick.kp T.b_need_trick .nil pass0 (pa_cons (pv 0) pa_nil)))
    (pss_cons (ps_expr (pe_call (okX_need_divisor T) (hr.mono (by decide)) rfl T.g_need_divisor T.F_need_divisor.kp T.b_need_divisor .nil (passes_call (takes_of rfl rfl rfl rfl) (fun _ _ _ _ h => h)) (pa_cons (pv 1) (pa_cons (pe_globI rfl T.v_MOST_DIVISOR) pa_nil))))
    pss_never)), ?_⟩
      walk_at "g"
      exact ⟨_, _, rfl, hb, h⟩

/-! ### need_tricks -/
-- @NEEDS Trick_init
/-- tricks that stand in a list or tuple -/
def TricksAt (Z : Adr) (H : Hp) (a : Addr) (l : List Tr) : Prop := ∃ xs : List V, EAt H a xs ∧ xs.length = l.length ∧ (∀ x ∈ l, TrOk x) ∧ ∀ (i : Nat) (x : V), xs[i]? = some x → ∃ (q : Addr) (y : Tr), l[i]? = some y ∧ x = .ref q ∧ TrickAt Z H q y.1 y.2.1 y.2.2
theorem TricksAt.same {B H : Hp} {a : Addr} {l : List Tr} (s : Same B H) (h : TricksAt Z B a l) : TricksAt Z H a l := by
  obtain ⟨xs, h1, h2, h3, h4⟩ := h
  refine ⟨xs, h1.up s, h2, h3, fun i x hi => ?_⟩
  obtain ⟨q, y, e1, e2, e3⟩ := h4 i x hi
  exact ⟨q, y, e1, e2, e3.same s⟩
def sp_need_tricks (Z : Adr) : Sp := fun vs H Q _ => ∃ (a : Addr) (l : List Tr), vs = [.ref a] ∧ TricksAt Z H a l ∧ (1 ≤ l.length ∧ l.length ≤ 4) ∧ ∀ H', Same H H' → Q .non H'
theorem ok_need_tricks (T : Txt K mg Z) : FnOk P w K mg base CX0 1 Z.f_need_tricks Z.d_need_tricks p_need_tricks (sp_need_tricks Z) := by
  refine T.F_need_tricks.ok sc_need_tricks (fun vs H Q E h => ?_) (fun cdv A outer s H vs Q E hr h => ?_)
  · obtain ⟨_, _, rfl, _⟩ := h; rfl
  · obtain ⟨a, l, rfl, ⟨xs, hxs, hl, hok, hx⟩, hl1, h⟩ := h
    have O := Own.refl H
    refine ⟨_, (pss_cons (ps_if (PW.pt (pw_or (pt_not (pt_val (pe_callB (r := rIsiT K) call_isiT (by rfl) T.n_isinstance boot_isinstance (pa_cons (pv 0) (pa_cons (pe_tup (pa_cons (pe_bltn (v := .ty "list") (by rfl) T.n_list boot_list rfl) (pa_cons (pe_bltn (v := .ty "tuple") (by rfl) T.n_tuple boot_tuple rfl) pa_nil))) pa_nil))))) (pw_or1 (pt_not (pt_chain op_le op_le pe_int (pe_callB (r := R.rLen K) call_lenR (by rfl) T.n_len boot_len (pa_cons (pv 0) pa_nil)) (pe_globI rfl T.v_MOST_TRICKS)))))) (pss_one ps_never) pss_nil)
    (pss_one (ps_for PassesOwn.never rfl (pi_either (pi_enum rfl T.n_enumerate (pa_cons (pv 0) pa_nil)) (pi_enumT rfl T.n_enumerate (pa_cons (pv 0) pa_nil))) (pg_tup rfl (pgs_cons (pg_name (i := 1) sc_need_tricks.nd rfl (Or.inl rfl)) (pgs_cons (pg_name (i := 2) sc_need_tricks.nd rfl (Or.inl rfl)) pgs_nil)))
    (pss_one (ps_if (pt_not (pt_val (pe_callB (r := rIsi K) call_isi (by rfl) T.n_isinstance boot_isinstance (pa_cons (pv 2) (pa_cons (pe_glob rfl T.g_Trick (v := .ref Z.c_Trick) rfl) pa_nil))))) (pss_one ps_never) pss_nil))))), ?_⟩
    walk_at "g"; walk_at "mkT"; intro tp H1 htp O
    walk_at "g"
    refine a_isiE (hxs.up O.st) (O.get 0 rfl) ?_
    walk_at "g"
    refine a_lenE (hxs.up O.st) ?_
    walk_at "g"
    refine for_enumE (hxs.up O.st) rfl (fun i σ H' => ∃ v1 v2 Lw, σ = [some (.ref a), v1, v2] ∧ Own H1 Lw H') ⟨none, none, [], rfl, Own.refl H1⟩ (fun i σ H' ⟨_, _, _, _, O⟩ => O.st) ?_ ?_
    · rintro i x T2 σ H' hi ⟨v1, v2, Lw, rfl, O2⟩ hT
      obtain ⟨q, y, e1, rfl, ta⟩ := hx i x hi
      have O2 := Own.new (o := .tup [.int (i : Nat), .ref q]) O2 hT
      walk_at "g"
      have ta := (ta.same O.st).same O2.st
      obtain ⟨_, dx, h2⟩ := ta
      refine ⟨_, _, _, _, true, rfl, .own _, .base (.ins h2 T.is_Trick.cl T.is_Trick.ha T.is_Trick.hn T.is_Trick.htk T.is_Trick.hm), T.is_Trick.me, ?_⟩
      walk_at "g"
      exact ⟨_, _, _, rfl, O2⟩
    · rintro σ H' ⟨v1, v2, Lw, rfl, O2⟩
      walk_at "g"
      exact h _ (Same.trans O.st O2.st)

/-! ### need_tricks_x -/
-- @NEEDS Trick_init need_tricks
def IsTrick (Z : Adr) (H : Hp) (x : V) : Prop := ∃ q b k t, x = .ref q ∧ TrickAt Z H q b k t
theorem IsTrick.same {B H : Hp} {x : V} (s : Same B H) (h : IsTrick Z B x) : IsTrick Z H x := by
  obtain ⟨q, b, k, t, e, h⟩ := h
  exact ⟨q, b, k, t, e, h.same s⟩
/-- no row of tricks: at r -/
def TBad (K : Frag) (Z : Adr) (H : Hp) (v r : V) : Prop := (NoRow K H v 1 4 ∧ r = .non) ∨
  ∃ (p : Addr) (xs : List V) (n : Nat) (w : V), v = .ref p ∧ EAt H p xs ∧ (1 ≤ xs.length ∧ xs.length ≤ 4) ∧ WrongAt xs n w (IsTrick Z H) ∧ NoI K H w ∧ r = .int (n : Int)
theorem TBad.same {B H : Hp} {v r : V} (s : Same B H) (h : TBad K Z B v r) : TBad K Z H v r := by
  rcases h with ⟨h, e⟩ | ⟨p, xs, n, w, e, hp, hl, hw, ho, er⟩
  · exact .inl ⟨h.same s, e⟩
  · exact .inr ⟨p, xs, n, w, e, hp.up s, hl, hw.mono (fun x => IsTrick.same s), ho.same s, er⟩
def sp_x_need_tricks (K : Frag) (Z : Adr) : Sp := fun vs H _ E => ∃ v r : V, vs = [v] ∧ TBad K Z H v r ∧ ∀ d H1, Same H H1 → H1 d = none → E (.ref Z.c_BadTricks) (some d) (upd H1 d (.xd [("index", r)]))
theorem okX_need_tricks (T : Txt K mg Z) : FnOk P w K mg base (L2.CX P w) 3 Z.f_need_tricks Z.d_need_tricks p_need_tricks (sp_x_need_tricks K Z) := by
  refine T.F_need_tricks.okX sc_need_tricks (fun vs H Q E h => ?_) (fun cdv A outer s H vs Q E hr h => ?_)
  · obtain ⟨_, _, rfl, _⟩ := h; rfl
  · obtain ⟨v, r, rfl, hv, h⟩ := h
    have O := Own.refl H
    rcases hv with ⟨hv, rfl⟩ | ⟨p, xs, n, w', rfl, hp, ⟨hl1, hl2⟩, hw, ho, rfl⟩
    · refine ⟨_, (pss_cons (ps_if (PW.pt (pw_or (pt_not (pt_val (pe_callB (r := rIsiT K) call_isiT (by rfl) T.n_isinstance boot_isinstance (pa_cons (pv 0) (pa_cons (pe_tup (pa_cons (pe_bltn (v := .ty "list") (by rfl) T.n_list boot_list rfl) (pa_cons (pe_bltn (v := .ty "tuple") (by rfl) T.n_tuple boot_tuple rfl) pa_nil))) pa_nil))))) (pw_or1 (pt_not (pt_chain op_le op_le pe_int (pe_callB (r := R.rLen K) call_lenR (by rfl) T.n_len boot_len (pa_cons (pv 0) pa_nil)) (pe_globI rfl T.v_MOST_TRICKS)))))) (pss_one (ps_raise1 rfl (takes_of rfl rfl rfl rfl) T.ox_BadTricks T.ix_BadTricks T.tx_BadTricks (ok_BadTricks_init T) (hr.mono (by decide)) T.b_BadTricks_init rfl T.g_BadTricks (pa_cons pe_non pa_nil))) pss_nil)
    pss_never), ?_⟩
      walk_at "g"; walk_at "mkT"; intro tp H1 htp O
      walk_at "g"
      rcases hv with hv | ⟨p, xs, rfl, hp, hn⟩
      · refine a_isiN2 (hv.same O.st) (O.get 0 rfl) ?_
        walk_at "g"
        exact fun d hd => h d _ O.st hd
      · refine a_isiE (hp.up O.st) (O.get 0 rfl) ?_
        walk_at "g"
        refine a_lenE (hp.up O.st) ?_
        walk_at "g"
        refine a_it2 (fun c => ?_) (fun c => ?_)
        · walk_at "g"
          exact fun d hd => h d _ O.st hd
        · walk_at "g"
          exact fun d hd => h d _ O.st hd
    · refine ⟨_, (pss_cons (ps_if (PW.pt (pw_or (pt_not (pt_val (pe_callB (r := rIsiT K) call_isiT (by rfl) T.n_isinstance boot_isinstance (pa_cons (pv 0) (pa_cons (pe_tup (pa_cons (pe_bltn (v := .ty "list") (by rfl) T.n_list boot_list rfl) (pa_cons (pe_bltn (v := .ty "tuple") (by rfl) T.n_tuple boot_tuple rfl) pa_nil))) pa_nil))))) (pw_or1 (pt_not (pt_chain op_le op_le pe_int (pe_callB (r := R.rLen K) call_lenR (by rfl) T.n_len boot_len (pa_cons (pv 0) pa_nil)) (pe_globI rfl T.v_MOST_TRICKS)))))) (pss_one ps_never) pss_nil)
    (pss_one (ps_for (passes_of rfl) rfl (pi_either (pi_enum rfl T.n_enumerate (pa_cons (pv 0) pa_nil)) (pi_enumT rfl T.n_enumerate (pa_cons (pv 0) pa_nil))) (pg_tup rfl (pgs_cons (pg_name (i := 1) sc_need_tricks.nd rfl (Or.inl rfl)) (pgs_cons (pg_name (i := 2) sc_need_tricks.nd rfl (Or.inl rfl)) pgs_nil)))
    (pss_one (ps_if (pt_not (pt_val (pe_callB (r := rIsi K) call_isi (by rfl) T.n_isinstance boot_isinstance (pa_cons (pv 2) (pa_cons (pe_glob rfl T.g_Trick (v := .ref Z.c_Trick) rfl) pa_nil))))) (pss_one (ps_raise1 rfl (takes_of rfl rfl rfl rfl) T.ox_BadTricks T.ix_BadTricks T.tx_BadTricks (ok_BadTricks_init T) (hr.mono (by decide)) T.b_BadTricks_init rfl T.g_BadTricks (pa_cons (pv 1) pa_nil))) pss_nil))))), ?_⟩
      walk_at "g"; walk_at "mkT"; intro tp H1 htp O
      walk_at "g"
      refine a_isiE (hp.up O.st) (O.get 0 rfl) ?_
      walk_at "g"
      refine a_lenE (hp.up O.st) ?_
      walk_at "g"
      have s1 : Same H H1 := O.st
      refine for_enumE (hp.up O.st) rfl (fun i σ H' => i ≤ n ∧ ∃ v1 v2 Lw, σ = [some (.ref p), v1, v2] ∧ Own H1 Lw H') ⟨Nat.zero_le _, _, _, [], rfl, Own.refl H1⟩ (fun i σ H' ⟨_, _, _, _, _, O⟩ => O.st) ?_ ?_
      · clear O
        rintro i x T2 σ H' hi ⟨hin, v1, v2, Lw, rfl, O⟩ hT
        have O := Own.new (o := .tup [.int (i : Nat), x]) O hT
        have sH := s1.trans O.st
        walk_at "g"
        by_cases c : i < n
        · obtain ⟨q, b, k, t, rfl, ta⟩ := hw.2 i x c hi
          have ta := ta.same sH
          obtain ⟨_, dx, h2⟩ := ta
          refine ⟨_, _, _, _, true, rfl, .own _, .base (.ins h2 T.is_Trick.cl T.is_Trick.ha T.is_Trick.hn T.is_Trick.htk T.is_Trick.hm), T.is_Trick.me, ?_⟩
          walk_at "g"
          exact ⟨by omega, _, _, _, rfl, O⟩
        · have e : i = n := by omega
          subst e
          rw [hw.1] at hi
          cases hi
          refine a_isiC T.ty_Trick (ho.same sH) ?_
          walk_at "g"
          exact fun d hd => h d _ sH hd
      · rintro σ H' ⟨hin, _⟩
        exact absurd (List.getElem?_eq_some_iff.mp hw.1).1 (by omega)

/-! ### chained_x -/
-- @NEEDS Trick_init need_tricks need_tricks_x
def sp_x_chained (K : Frag) (Z : Adr) : Sp := fun vs H _ E => ∃ v n : V, vs = [v, n] ∧ ((∃ r, TBad K Z H v r ∧ ∀ d H1, Same H H1 → H1 d = none → E (.ref Z.c_BadTricks) (some d) (upd H1 d (.xd [("index", r)]))) ∨
  ∃ (a : Addr) (l : List Tr), v = .ref a ∧ TricksAt Z H a l ∧ (1 ≤ l.length ∧ l.length ≤ 4) ∧ OutR K H n (-(10 ^ 40)) (10 ^ 40) ∧ ∀ d H1, Same H H1 → H1 d = none → E (.ref Z.c_BadNumber) (some d) (upd H1 d (.xd [("n", n)])))
theorem okX_chained (T : Txt K mg Z) : FnOk P w K mg base (L2.CX P w) 4 Z.f_chained Z.d_chained p_chained (sp_x_chained K Z) := by
  refine T.F_chained.okX sc_chained (fun vs H Q E h => ?_) (fun cdv A outer s H vs Q E hr h => ?_)
  · obtain ⟨_, _, rfl, _⟩ := h; rfl
  · obtain ⟨v, n, rfl, h⟩ := h
    rcases h with ⟨r, hv, h⟩ | ⟨a, l, rfl, ha, hl, hn, h⟩
    · refine ⟨_, (pss_cons (ps_expr (pe_call (okX_need_tricks T) (hr.mono (by decide)) rfl T.g_need_tricks T.F_need_tricks.kp T.b_need_tricks .nil (passes_call (takes_of rfl rfl rfl rfl) (fun _ _ _ _ h => h)) (pa_cons (pv 0) pa_nil)))
    pss_never), ?_⟩
      walk_at "g"
      exact ⟨v, r, rfl, hv, h⟩
    · refine ⟨_, (pss_cons (ps_expr (pe_call (ok_need_tricks T) (hr.mono (by decide)) rfl T.g_need_tricks T.F_need_tricks.kp T.b_need_tricks .nil pass0 (pa_cons (pv 0) pa_nil)))
    (pss_cons (ps_expr (pe_call (okX_need_number T) (hr.mono (by decide)) rfl T.g_need_number T.F_need_number.kp T.b_need_number .nil (passes_call (takes_of rfl rfl rfl rfl) (fun _ _ _ _ h => h)) (pa_cons (pv 1) pa_nil)))
    pss_never)), ?_⟩
      walk_at "g"
      refine ⟨a, l, rfl, ha, hl, fun H' s => ?_⟩
      walk_at "g"
      exact ⟨_, rfl, hn.same s, fun d hd => h d _ s hd⟩

/-! ### wide_of -/
-- @NEEDS Trick_init need_tricks
def sp_wide_of (Z : Adr) : Sp := fun vs H Q _ => ∃ (a : Addr) (l : List Tr), vs = [.ref a] ∧ TricksAt Z H a l ∧ wideA l ≤ 100000 ∧ Q (.int (wideA l)) H
theorem tricks_list {H : Hp} {a : Addr} {l : List Tr} {xs : List V} (ha : TricksAt Z H a l) (h : H a = some (.lst xs)) : xs.length = l.length ∧ (∀ x ∈ l, TrOk x) ∧ ∀ (i : Nat) (x : V), xs[i]? = some x → ∃ (q : Addr) (y : Tr), l[i]? = some y ∧ x = .ref q ∧ TrickAt Z H q y.1 y.2.1 y.2.2 := by
  obtain ⟨ys, h1, h2, h3, h4⟩ := ha
  rcases h1 with h1 | h1
  · rw [h] at h1
    cases h1
    exact ⟨h2, h3, h4⟩
  · rw [h] at h1
    cases h1
theorem wideA_le {l : List Tr} (h : ∀ x ∈ l, TrOk x) : ∀ i : Nat, wideA (l.take i) ≤ wideA l
  | 0 => by
    have q := wideA_pos h
    show (1 : Int) ≤ wideA l
    omega
  | i + 1 => by
    by_cases c : i + 1 ≤ l.length
    · have e : l = l.take (i + 1) ++ l.drop (i + 1) := (List.take_append_drop _ _).symm
      have w : ∀ a b : List Tr, wideA (a ++ b) = wideA a * wideA b := fun a b => by
        induction a with
        | nil => show wideA b = 1 * wideA b; rw [Int.one_mul]
        | cons x a ih => show blk x * wideA (a ++ b) = blk x * wideA a * wideA b; rw [ih, Int.mul_assoc]
      have p1 := wideA_pos (l := l.take (i + 1)) fun x hx => h x (List.mem_of_mem_take hx)
      have p2 := wideA_pos (l := l.drop (i + 1)) fun x hx => h x (List.mem_of_mem_drop hx)
      have z := w (l.take (i + 1)) (l.drop (i + 1))
      rw [← e] at z
      have q : wideA (l.take (i + 1)) * 1 ≤ wideA (l.take (i + 1)) * wideA (l.drop (i + 1)) := Int.mul_le_mul_of_nonneg_left (by omega) (by omega)
      omega
    · rw [List.take_of_length_le (by omega)]
      exact Int.le_refl _
theorem ok_wide_of (T : Txt K mg Z) : FnOk P w K mg base CX0 1 Z.f_wide_of Z.d_wide_of p_wide_of (sp_wide_of Z) := by
  refine T.F_wide_of.ok sc_wide_of (fun vs H Q E h => ?_) (fun cdv A outer s H vs Q E hr h => ?_)
  · obtain ⟨_, _, rfl, _⟩ := h; rfl
  · obtain ⟨a, l, rfl, ⟨xs, hxs, hl, hok, hx⟩, hw, h⟩ := h
    refine ⟨_, (pss_cons (ps_set (i := 1) sc_wide_of.nd rfl (Or.inl rfl) pe_int)
    (pss_cons (ps_for PassesOwn.never rfl (pi_either (pi_list (pv 0)) (pi_tup (pv 0))) (pg_name (i := 2) sc_wide_of.nd rfl (Or.inl rfl))
    (pss_one (ps_set (i := 1) sc_wide_of.nd rfl (Or.inl rfl) (pe_op op_mulX (pv 1) (pe_fld (pv 2) rfl)))))
    (pss_one (ps_ret (pv 1))))), ?_⟩
    walk_at "g"
    refine for_E hxs rfl (fun i σ H' => H' = H ∧ ∃ v, σ = [some (.ref a), some (.int (wideA (l.take i))), v]) ⟨rfl, none, rfl⟩ (fun i σ H' ⟨e, _⟩ => by rw [e]; exact Same.refl H) ?_ ?_
    · rintro i x σ H' hi ⟨rfl, v, rfl⟩
      obtain ⟨q, y, e1, rfl, ta⟩ := hx i x hi
      obtain ⟨hi, e⟩ := List.getElem?_eq_some_iff.mp e1
      have w0 := wideA_pos (l := l.take i) fun x hx => hok x (List.mem_of_mem_take hx)
      have w1 := wideA_le hok i
      walk_at "g"
      refine ⟨rfl, some (.ref q), ?_⟩
      rw [wideA_take hi, e]
      rfl
    · rintro σ H' ⟨rfl, v, rfl⟩
      walk_at "g"
      rw [hl, List.take_length]
      exact h

/-! ### need_chain_x -/
-- @NEEDS Trick_init need_tricks need_tricks_x wide_of
inductive COut where
  | tricks (r : V)
  | div
  | wide
def ChBad (K : Frag) (Z : Adr) (H : Hp) (v d : V) (o : COut) : Prop := (∃ r, TBad K Z H v r ∧ o = .tricks r) ∨
  ∃ (a : Addr) (l : List Tr), v = .ref a ∧ TricksAt Z H a l ∧ (1 ≤ l.length ∧ l.length ≤ 4) ∧ ((OutR K H d 1 30 ∧ o = .div) ∨ (∃ di : Int, d = .int di ∧ 1 ≤ di ∧ di ≤ 30) ∧ 300 < wideA l ∧ wideA l ≤ 100000 ∧ o = .wide)
theorem ChBad.same {B H : Hp} {v d : V} {o : COut} (s : Same B H) (h : ChBad K Z B v d o) : ChBad K Z H v d o := by
  rcases h with ⟨r, h, e⟩ | ⟨a, l, e, ha, hl, h⟩
  · exact .inl ⟨r, h.same s, e⟩
  · refine .inr ⟨a, l, e, ha.same s, hl, ?_⟩
    rcases h with ⟨h, e⟩ | h
    · exact .inl ⟨h.same s, e⟩
    · exact .inr h
def CXOut (Z : Adr) (H : Hp) (o : COut) (E : XK) : Prop := ∀ H1, Same H H1 → match o with
  | .tricks r => ∀ d, H1 d = none → E (.ref Z.c_BadTricks) (some d) (upd H1 d (.xd [("index", r)]))
  | .div => E (.ref Z.c_BadDivisor) none H1
  | .wide => ∀ d, H1 d = none → E (.ref Z.c_TooWide) (some d) (upd H1 d (.xd [("most", .int 300)]))
def sp_x_need_chain (K : Frag) (Z : Adr) : Sp := fun vs H _ E => ∃ (v d : V) (o : COut), vs = [v, d] ∧ ChBad K Z H v d o ∧ CXOut Z H o E
theorem okX_need_chain (T : Txt K mg Z) : FnOk P w K mg base (L2.CX P w) 4 Z.f_need_chain Z.d_need_chain p_need_chain (sp_x_need_chain K Z) := by
  refine T.F_need_chain.okX sc_need_chain (fun vs H Q E h => ?_) (fun cdv A outer s H vs Q E hr h => ?_)
  · obtain ⟨_, _, _, rfl, _⟩ := h; rfl
  · obtain ⟨v, d, o, rfl, hv, h⟩ := h
    rcases hv with ⟨r, hv, rfl⟩ | ⟨a, l, rfl, ha, hl, ⟨hd, rfl⟩ | ⟨⟨di, rfl, hd1, hd2⟩, hw1, hw2, rfl⟩⟩
    · refine ⟨_, (pss_cons (ps_expr (pe_call (okX_need_tricks T) (hr.mono (by decide)) rfl T.g_need_tricks T.F_need_tricks.kp T.b_need_tricks .nil (passes_call (takes_of rfl rfl rfl rfl) (fun _ _ _ _ h => h)) (pa_cons (pv 0) pa_nil)))
    pss_never), ?_⟩
      walk_at "g"
      exact ⟨v, r, rfl, hv, fun d H1 s hd => h H1 s d hd⟩
    · refine ⟨_, (pss_cons (ps_expr (pe_call (ok_need_tricks T) (hr.mono (by decide)) rfl T.g_need_tricks T.F_need_tricks.kp T.b_need_tricks .nil pass0 (pa_cons (pv 0) pa_nil)))
    (pss_cons (ps_expr (pe_call (okX_need_divisor T) (hr.mono (by decide)) rfl T.g_need_divisor T.F_need_divisor.kp T.b_need_divisor .nil (passes_call (takes_of rfl rfl rfl rfl) (fun _ _ _ _ h => h)) (pa_cons (pv 1) (pa_cons (pe_globI rfl T.v_MOST_CHAIN_DIVISOR) pa_nil))))
    pss_never)), ?_⟩
      walk_at "g"
      refine ⟨a, l, rfl, ha, hl, fun H' s => ?_⟩
      walk_at "g"
      exact ⟨_, _, rfl, hd.same s, h H' s⟩
    · refine ⟨_, (pss_cons (ps_expr (pe_call (ok_need_tricks T) (hr.mono (by decide)) rfl T.g_need_tricks T.F_need_tricks.kp T.b_need_tricks .nil pass0 (pa_cons (pv 0) pa_nil)))
    (pss_cons (ps_expr (pe_call (ok_need_divisor T) (hr.mono (by decide)) rfl T.g_need_divisor T.F_need_divisor.kp T.b_need_divisor .nil pass0 (pa_cons (pv 1) (pa_cons (pe_globI rfl T.v_MOST_CHAIN_DIVISOR) pa_nil))))
    (pss_one (ps_if (pt_cmpR op_gt (pe_call (ok_wide_of T) (hr.mono (by decide)) rfl T.g_wide_of T.F_wide_of.kp T.b_wide_of .nil pass0 (pa_cons (pv 0) pa_nil)) (pe_globI rfl T.v_MOST_WIDE) (nomark _)) (pss_one (ps_raise1 rfl (takes_of rfl rfl rfl rfl) T.ox_TooWide T.ix_TooWide T.tx_TooWide (ok_TooWide_init T) (hr.mono (by decide)) T.b_TooWide_init rfl T.g_TooWide (pa_cons (pe_globI rfl T.v_MOST_WIDE) pa_nil))) pss_nil)))), ?_⟩
      walk_at "g"
      refine ⟨a, l, rfl, ha, hl, fun H' s => ?_⟩
      walk_at "g"
      refine ⟨a, l, rfl, ha.same s, hw2, ?_⟩
      walk_at "g"
      exact fun d hd => h H' s d hd

/-! ### chain_tells_x -/
-- @NEEDS Trick_init need_tricks need_chain_x
def sp_x_chain_tells (K : Frag) (Z : Adr) : Sp := fun vs H _ E => ∃ (v d : V) (o : COut), vs = [v, d] ∧ ChBad K Z H v d o ∧ CXOut Z H o E
theorem okX_chain_tells (T : Txt K mg Z) : FnOk P w K mg base (L2.CX P w) 5 Z.f_chain_tells Z.d_chain_tells p_chain_tells (sp_x_chain_tells K Z) := by
  refine T.F_chain_tells.okX sc_chain_tells (fun vs H Q E h => ?_) (fun cdv A outer s H vs Q E hr h => ?_)
  · obtain ⟨_, _, _, rfl, _⟩ := h; rfl
  · obtain ⟨v, d, o, rfl, h⟩ := h
    refine ⟨_, (pss_cons (ps_expr (pe_call (okX_need_chain T) (hr.mono (by decide)) rfl T.g_need_chain T.F_need_chain.kp T.b_need_chain .nil (passes_call (takes_of rfl rfl rfl rfl) (fun _ _ _ _ h => h)) (pa_cons (pv 0) (pa_cons (pv 1) pa_nil))))
    pss_never), ?_⟩
    walk_at "g"
    exact ⟨v, d, o, rfl, h⟩

/-! ### need_labels -/
def sp_need_labels : Sp := fun vs H Q _ => ∃ (p : Addr) (ws : List Int), vs = [.ref p] ∧ H p = some (.tup (ws.map V.int)) ∧ 1 ≤ ws.length ∧ ws.length ≤ 20 ∧ (∀ w ∈ ws, 0 ≤ w ∧ w ≤ 19) ∧ ∀ H', Same H H' → Q .non H'
theorem ok_need_labels (T : Txt K mg Z) : FnOk P w K mg base CX0 2 Z.f_need_labels Z.d_need_labels p_need_labels sp_need_labels := by
  refine T.F_need_labels.ok sc_need_labels (fun vs H Q E h => ?_) (fun cdv A outer s H vs Q E hr h => ?_)
  · obtain ⟨_, _, rfl, _⟩ := h; rfl
  · obtain ⟨p, ws, rfl, hp, hm, hl, hw, h⟩ := h
    have O := Own.refl H
    refine ⟨_, (pss_cons (ps_if (PW.pt (pw_or (pt_not (pt_val (pe_callB (r := rIsi K) call_isi (by rfl) T.n_isinstance boot_isinstance (pa_cons (pv 0) (pa_cons (pe_bltn (v := .ty "tuple") (by rfl) T.n_tuple boot_tuple rfl) pa_nil))))) (pw_or1 (pt_not (pt_chain op_le op_le pe_int (pe_callB (r := R.rLen K) call_lenR (by rfl) T.n_len boot_len (pa_cons (pv 0) pa_nil)) (pe_globI rfl T.v_MOST_RESTS)))))) (pss_one ps_never) pss_nil)
    (pss_one (ps_for PassesOwn.never rfl (pi_enumT rfl T.n_enumerate (pa_cons (pv 0) pa_nil)) (pg_tup rfl (pgs_cons (pg_name (i := 1) sc_need_labels.nd rfl (Or.inl rfl)) (pgs_cons (pg_name (i := 2) sc_need_labels.nd rfl (Or.inl rfl)) pgs_nil)))
    (pss_one (ps_if (pt_not (pt_val (pe_call (ok_is_from T) (hr.mono (by decide)) rfl T.g_is_from T.F_is_from.kp T.b_is_from .nil pass0 (pa_cons (pv 2) (pa_cons pe_int (pa_cons (pe_op op_sub (pe_globI rfl T.v_MOST_RESTS) pe_int) pa_nil)))))) (pss_one ps_never) pss_nil))))), ?_⟩
    walk_at "g"
    refine ⟨_, _, .type "tuple", .type "tuple", true, rfl, .ty _, .base (.tup hp), kit_ty (by decide +kernel), ?_⟩
    walk_at "g"
    refine a_len (.inr (SqT.of hp)) ?_
    rw [List.length_map]
    walk_at "g"
    refine ⟨p, _, rfl, SqT.of hp, ?_⟩
    refine for_it walk_enumT (fun i σ H' => ∃ v2 v3 Lw, σ = [some (.ref p), v2, v3] ∧ Own H Lw H') ⟨_, _, _, rfl, O⟩ (fun i σ H' _ ⟨_, _, _, _, O⟩ => SqT.of (O.st _ _ hp)) ?_ ?_
    · clear O
      rintro i v σ H' H'' hi ⟨v2, v3, Lw, rfl, O⟩ ⟨t, y1, y2, rfl, ht, rfl, e1, e2⟩
      rw [List.length_map] at hi
      have O := Own.new (o := .tup [y1, y2]) O ht
      have e1 : y1 = .int i := (Option.some.inj e1).symm
      have e2 : (ws.map V.int)[i]? = some y2 := e2
      have e2 : y2 = .int (ws[i]'hi) := by
        rw [List.getElem?_map, List.getElem?_eq_getElem hi] at e2
        exact (Option.some.inj e2).symm
      subst e1 e2
      have hy := hw _ (List.getElem_mem hi)
      walk_at "g"
      exact ⟨_, _, _, rfl, O⟩
    · clear O
      rintro σ H' ⟨v2, v3, Lw, rfl, O⟩
      walk_at "g"
      exact h _ O.toSame

/-! ### need_labels_x -/
def LOk (x : V) : Prop := ∃ i, x = .int i ∧ 0 ≤ i ∧ i ≤ 19
/-- no labels: at r -/
def LBad (K : Frag) (H : Hp) (v r : V) : Prop := (NoTup K H v 1 20 ∧ r = .non) ∨
  ∃ (p : Addr) (xs : List V) (n : Nat) (w : V), v = .ref p ∧ H p = some (.tup xs) ∧ (1 ≤ xs.length ∧ xs.length ≤ 20) ∧ WrongAt xs n w LOk ∧ OutR K H w 0 19 ∧ r = .int (n : Int)
theorem LBad.same {B H : Hp} {v r : V} (s : Same B H) (h : LBad K B v r) : LBad K H v r := by
  rcases h with ⟨h, e⟩ | ⟨p, xs, n, w, e, hp, hl, hw, ho, er⟩
  · exact .inl ⟨h.same s, e⟩
  · exact .inr ⟨p, xs, n, w, e, s _ _ hp, hl, hw, ho.same s, er⟩
def sp_x_need_labels (K : Frag) (Z : Adr) : Sp := fun vs H _ E => ∃ v r : V, vs = [v] ∧ LBad K H v r ∧ ∀ d H1, Same H H1 → H1 d = none → E (.ref Z.c_BadRests) (some d) (upd H1 d (.xd [("index", r)]))
theorem okX_need_labels (T : Txt K mg Z) : FnOk P w K mg base (L2.CX P w) 3 Z.f_need_labels Z.d_need_labels p_need_labels (sp_x_need_labels K Z) := by
  refine T.F_need_labels.okX sc_need_labels (fun vs H Q E h => ?_) (fun cdv A outer s H vs Q E hr h => ?_)
  · obtain ⟨_, _, rfl, _⟩ := h; rfl
  · obtain ⟨v, r, rfl, hv, h⟩ := h
    have O := Own.refl H
    rcases hv with ⟨hv, rfl⟩ | ⟨p, xs, n, w', rfl, hp, ⟨hl1, hl2⟩, hw, ho, rfl⟩
    · refine ⟨_, (pss_cons (ps_if (PW.pt (pw_or (pt_not (pt_val (pe_callB (r := rIsi K) call_isi (by rfl) T.n_isinstance boot_isinstance (pa_cons (pv 0) (pa_cons (pe_bltn (v := .ty "tuple") (by rfl) T.n_tuple boot_tuple rfl) pa_nil))))) (pw_or1 (pt_not (pt_chain op_le op_le pe_int (pe_callB (r := R.rLen K) call_lenR (by rfl) T.n_len boot_len (pa_cons (pv 0) pa_nil)) (pe_globI rfl T.v_MOST_RESTS)))))) (pss_one (ps_raise1 rfl (takes_of rfl rfl rfl rfl) T.ox_BadRests T.ix_BadRests T.tx_BadRests (ok_BadRests_init T) (hr.mono (by decide)) T.b_BadRests_init rfl T.g_BadRests (pa_cons pe_non pa_nil))) pss_nil)
    pss_never), ?_⟩
      rcases hv with hv | ⟨p, xs, rfl, hp, hn⟩
      · walk_at "g"
        refine a_isiNT hv ?_
        walk_at "g"
        exact fun d hd => h d _ O.st hd
      · have hpT : SqT K H p xs := SqT.of hp
        walk_at "g"
        refine a_isiT1 hp ?_
        walk_at "g"
        refine a_it2 (fun c => ?_) (fun c => ?_)
        · walk_at "g"
          exact fun d hd => h d _ O.st hd
        · walk_at "g"
          exact fun d hd => h d _ O.st hd
    · have hpT : SqT K H p xs := SqT.of hp
      refine ⟨_, (pss_cons (ps_if (PW.pt (pw_or (pt_not (pt_val (pe_callB (r := rIsi K) call_isi (by rfl) T.n_isinstance boot_isinstance (pa_cons (pv 0) (pa_cons (pe_bltn (v := .ty "tuple") (by rfl) T.n_tuple boot_tuple rfl) pa_nil))))) (pw_or1 (pt_not (pt_chain op_le op_le pe_int (pe_callB (r := R.rLen K) call_lenR (by rfl) T.n_len boot_len (pa_cons (pv 0) pa_nil)) (pe_globI rfl T.v_MOST_RESTS)))))) (pss_one ps_never) pss_nil)
    (pss_one (ps_for (passes_of rfl) rfl (pi_enumT rfl T.n_enumerate (pa_cons (pv 0) pa_nil)) (pg_tup rfl (pgs_cons (pg_name (i := 1) sc_need_labels.nd rfl (Or.inl rfl)) (pgs_cons (pg_name (i := 2) sc_need_labels.nd rfl (Or.inl rfl)) pgs_nil)))
    (pss_one (ps_if (pt_not (pt_val (pe_call (okX_is_from T) (hr.mono (by decide)) rfl T.g_is_from T.F_is_from.kp T.b_is_from .nil pass0 (pa_cons (pv 2) (pa_cons pe_int (pa_cons (pe_op op_sub (pe_globI rfl T.v_MOST_RESTS) pe_int) pa_nil)))))) (pss_one (ps_raise1 rfl (takes_of rfl rfl rfl rfl) T.ox_BadRests T.ix_BadRests T.tx_BadRests (ok_BadRests_init T) (hr.mono (by decide)) T.b_BadRests_init rfl T.g_BadRests (pa_cons (pv 1) pa_nil))) pss_nil))))), ?_⟩
      walk_at "g"
      refine a_isiT1 hp ?_
      walk_at "g"
      refine ⟨p, _, rfl, SqT.of hp, ?_⟩
      refine for_it walk_enumT (fun i σ H' => i ≤ n ∧ ∃ v2 v3 Lw, σ = [some (.ref p), v2, v3] ∧ Own H Lw H') ⟨Nat.zero_le _, _, _, _, rfl, O⟩ (fun i σ H' _ ⟨_, _, _, _, _, O⟩ => SqT.of (O.st _ _ hp)) ?_ ?_
      · clear O
        rintro i v σ H' H'' hi ⟨hin, v2, v3, Lw, rfl, O⟩ ⟨t, y1, y2, rfl, ht, rfl, e1, e2⟩
        have O := Own.new (o := .tup [y1, y2]) O ht
        have e1 : y1 = .int i := (Option.some.inj e1).symm
        have e2 : xs[i]? = some y2 := e2
        subst e1
        walk_at "g"
        by_cases c : i < n
        · obtain ⟨y, rfl, c1, c2⟩ := hw.2 i y2 c e2
          walk_at "g"
          refine use_x_is_from_ok ⟨c1, c2⟩ ?_
          walk_at "g"
          exact ⟨by omega, _, _, _, rfl, O⟩
        · have e : i = n := by omega
          subst e
          rw [hw.1] at e2
          cases e2
          refine use_x_is_from (ho.same O.st) ?_
          walk_at "g"
          exact fun d hd => h d _ O.st hd
      · rintro σ H' ⟨hin, _⟩
        exact absurd (List.getElem?_eq_some_iff.mp hw.1).1 (by omega)

/-! ### front_states_x -/
-- @NEEDS need_labels_x
def sp_x_front_states (K : Frag) (Z : Adr) : Sp := fun vs H _ E => ∃ b v : V, vs = [b, v] ∧ ((OutR K H b 2 16 ∧ E (.ref Z.c_BadBase) none H) ∨ ((∃ i, b = .int i ∧ 2 ≤ i ∧ i ≤ 16) ∧ ∃ r, LBad K H v r ∧ ∀ d H1, Same H H1 → H1 d = none → E (.ref Z.c_BadRests) (some d) (upd H1 d (.xd [("index", r)]))))
theorem okX_front_states (T : Txt K mg Z) : FnOk P w K mg base (L2.CX P w) 4 Z.f_front_states Z.d_front_states p_front_states (sp_x_front_states K Z) := by
  refine T.F_front_states.okX sc_front_states (fun vs H Q E h => ?_) (fun cdv A outer s H vs Q E hr h => ?_)
  · obtain ⟨_, _, rfl, _⟩ := h; rfl
  · obtain ⟨b, v, rfl, h⟩ := h
    rcases h with ⟨hb, h⟩ | ⟨⟨i, rfl, h1, h2⟩, r, hv, h⟩
    · refine ⟨_, (pss_cons (ps_expr (pe_call (okX_need_base T) (hr.mono (by decide)) rfl T.g_need_base T.F_need_base.kp T.b_need_base .nil (passes_call (takes_of rfl rfl rfl rfl) (fun _ _ _ _ h => h)) (pa_cons (pv 0) pa_nil)))
    pss_never), ?_⟩
      walk_at "g"
      exact ⟨_, rfl, hb, h⟩
    · refine ⟨_, (pss_cons (ps_expr (pe_call (ok_need_base T) (hr.mono (by decide)) rfl T.g_need_base T.F_need_base.kp T.b_need_base .nil pass0 (pa_cons (pv 0) pa_nil)))
    (pss_cons (ps_expr (pe_call (okX_need_labels T) (hr.mono (by decide)) rfl T.g_need_labels T.F_need_labels.kp T.b_need_labels .nil (passes_call (takes_of rfl rfl rfl rfl) (fun _ _ _ _ h => h)) (pa_cons (pv 1) pa_nil)))
    pss_never)), ?_⟩
      walk_at "g"
      exact ⟨v, r, rfl, hv, h⟩

/-! ### front_word_x -/
-- @NEEDS need_labels need_labels_x
def sp_x_front_word (K : Frag) (Z : Adr) : Sp := fun vs H _ E => ∃ (b : V) (p : Addr) (ls : List Int) (one other : V), vs = [b, .ref p, one, other] ∧ (∃ i, b = .int i ∧ 2 ≤ i ∧ i ≤ 16) ∧ H p = some (.tup (ls.map V.int)) ∧ 1 ≤ ls.length ∧ ls.length ≤ 20 ∧ (∀ w ∈ ls, 0 ≤ w ∧ w ≤ 19) ∧
  (OutR K H one 0 ((ls.length : Int) - 1) ∨ ((∃ i, one = .int i ∧ 0 ≤ i ∧ i ≤ (ls.length : Int) - 1) ∧ OutR K H other 0 ((ls.length : Int) - 1))) ∧ ∀ H1, Same H H1 → E (.ref Z.c_BadRest) none H1
theorem okX_front_word (T : Txt K mg Z) : FnOk P w K mg base (L2.CX P w) 3 Z.f_front_word Z.d_front_word p_front_word (sp_x_front_word K Z) := by
  refine T.F_front_word.okX sc_front_word (fun vs H Q E h => ?_) (fun cdv A outer s H vs Q E hr h => ?_)
  · obtain ⟨_, _, _, _, _, rfl, _⟩ := h; rfl
  · obtain ⟨b, p, ls, one, other, rfl, ⟨bi, rfl, hb1, hb2⟩, hp, hl1, hl2, hw, hv, h⟩ := h
    refine ⟨_, (pss_cons (ps_expr (pe_call (ok_need_base T) (hr.mono (by decide)) rfl T.g_need_base T.F_need_base.kp T.b_need_base .nil pass0 (pa_cons (pv 0) pa_nil)))
    (pss_cons (ps_expr (pe_call (ok_need_labels T) (hr.mono (by decide)) rfl T.g_need_labels T.F_need_labels.kp T.b_need_labels .nil pass0 (pa_cons (pv 1) pa_nil)))
    (pss_cons (ps_if (PW.pt (pw_or (pt_not (pt_val (pe_call (okX_is_from T) (hr.mono (by decide)) rfl T.g_is_from T.F_is_from.kp T.b_is_from .nil pass0 (pa_cons (pv 2) (pa_cons pe_int (pa_cons (pe_op op_sub (pe_callB (r := R.rLen K) call_lenR (by rfl) T.n_len boot_len (pa_cons (pv 1) pa_nil)) pe_int) pa_nil)))))) (pw_or1 (pt_not (pt_val (pe_call (okX_is_from T) (hr.mono (by decide)) rfl T.g_is_from T.F_is_from.kp T.b_is_from .nil pass0 (pa_cons (pv 3) (pa_cons pe_int (pa_cons (pe_op op_sub (pe_callB (r := R.rLen K) call_lenR (by rfl) T.n_len boot_len (pa_cons (pv 1) pa_nil)) pe_int) pa_nil))))))))) (pss_one (ps_raise0 rfl (takes_of rfl rfl rfl rfl) T.ox_BadRest T.ix_BadRest T.tx_BadRest (ok_BadRest_init T) (hr.mono (by decide)) T.b_BadRest_init rfl T.g_BadRest)) pss_nil)
    pss_never))), ?_⟩
    walk_at "g"
    refine ⟨p, ls, rfl, hp, hl1, hl2, hw, fun H' s => ?_⟩
    have hpT : SqT K H' p (ls.map V.int) := SqT.of (s _ _ hp)
    walk_at "g"
    rw [List.length_map]
    rcases hv with hv | ⟨⟨i, rfl, i1, i2⟩, hv⟩
    · refine use_x_is_from (hv.same s) ?_
      walk_at "g"
      exact h _ s
    · refine use_x_is_from_ok ⟨i1, i2⟩ ?_
      walk_at "g"
      rw [List.length_map]
      refine use_x_is_from (hv.same s) ?_
      walk_at "g"
      exact h _ s

/-! ### need_weights -/
def sp_need_weights : Sp := fun vs H Q _ => ∃ (p : Addr) (ws : List Int) (m : Int), vs = [.ref p, .int m] ∧ H p = some (.tup (ws.map V.int)) ∧ m ≤ ws.length ∧ ws.length ≤ 12 ∧ (∀ w ∈ ws, -(10 ^ 6) ≤ w ∧ w ≤ 10 ^ 6) ∧ ∀ H', Same H H' → Q .non H'
theorem ok_need_weights (T : Txt K mg Z) : FnOk P w K mg base CX0 2 Z.f_need_weights Z.d_need_weights p_need_weights sp_need_weights := by
  refine T.F_need_weights.ok sc_need_weights (fun vs H Q E h => ?_) (fun cdv A outer s H vs Q E hr h => ?_)
  · obtain ⟨_, _, _, rfl, _⟩ := h; rfl
  · obtain ⟨p, ws, m, rfl, hp, hm, hl, hw, h⟩ := h
    have O := Own.refl H
    refine ⟨_, (pss_cons (ps_if (PW.pt (pw_or (pt_not (pt_val (pe_callB (r := rIsi K) call_isi (by rfl) T.n_isinstance boot_isinstance (pa_cons (pv 0) (pa_cons (pe_bltn (v := .ty "tuple") (by rfl) T.n_tuple boot_tuple rfl) pa_nil))))) (pw_or1 (pt_not (pt_chain op_le op_le (pv 1) (pe_callB (r := R.rLen K) call_lenR (by rfl) T.n_len boot_len (pa_cons (pv 0) pa_nil)) (pe_globI rfl T.v_MOST_WEIGHTS)))))) (pss_one ps_never) pss_nil)
    (pss_one (ps_for PassesOwn.never rfl (pi_enumT rfl T.n_enumerate (pa_cons (pv 0) pa_nil)) (pg_tup rfl (pgs_cons (pg_name (i := 2) sc_need_weights.nd rfl (Or.inl rfl)) (pgs_cons (pg_name (i := 3) sc_need_weights.nd rfl (Or.inl rfl)) pgs_nil)))
    (pss_one (ps_if (pt_not (pt_val (pe_call (ok_is_from T) (hr.mono (by decide)) rfl T.g_is_from T.F_is_from.kp T.b_is_from .nil pass0 (pa_cons (pv 3) (pa_cons (pe_un un_neg (pe_globI rfl T.v_MOST_WEIGHT)) (pa_cons (pe_globI rfl T.v_MOST_WEIGHT) pa_nil)))))) (pss_one ps_never) pss_nil))))), ?_⟩
    walk_at "g"
    refine ⟨_, _, .type "tuple", .type "tuple", true, rfl, .ty _, .base (.tup hp), kit_ty (by decide +kernel), ?_⟩
    walk_at "g"
    refine a_len (.inr (SqT.of hp)) ?_
    rw [List.length_map]
    walk_at "g"
    refine ⟨p, _, rfl, SqT.of hp, ?_⟩
    refine for_it walk_enumT (fun i σ H' => ∃ v2 v3 Lw, σ = [some (.ref p), some (.int m), v2, v3] ∧ Own H Lw H') ⟨_, _, _, rfl, O⟩ (fun i σ H' _ ⟨_, _, _, _, O⟩ => SqT.of (O.st _ _ hp)) ?_ ?_
    · clear O
      rintro i v σ H' H'' hi ⟨v2, v3, Lw, rfl, O⟩ ⟨t, y1, y2, rfl, ht, rfl, e1, e2⟩
      rw [List.length_map] at hi
      have O := Own.new (o := .tup [y1, y2]) O ht
      have e1 : y1 = .int i := (Option.some.inj e1).symm
      have e2 : (ws.map V.int)[i]? = some y2 := e2
      have e2 : y2 = .int (ws[i]'hi) := by
        rw [List.getElem?_map, List.getElem?_eq_getElem hi] at e2
        exact (Option.some.inj e2).symm
      subst e1 e2
      have hy := hw _ (List.getElem_mem hi)
      walk_at "g"
      exact ⟨_, _, _, rfl, O⟩
    · clear O
      rintro σ H' ⟨v2, v3, Lw, rfl, O⟩
      walk_at "g"
      exact h _ O.toSame

/-! ### need_weights_x -/
def WOk (x : V) : Prop := ∃ i, x = .int i ∧ -(10 ^ 6) ≤ i ∧ i ≤ 10 ^ 6
/-- no weights: at r -/
def WBad (K : Frag) (H : Hp) (v : V) (m : Nat) (r : V) : Prop := (NoTup K H v m 12 ∧ r = .non) ∨
  ∃ (p : Addr) (xs : List V) (n : Nat) (w : V), v = .ref p ∧ H p = some (.tup xs) ∧ (m ≤ xs.length ∧ xs.length ≤ 12) ∧ WrongAt xs n w WOk ∧ OutR K H w (-(10 ^ 6)) (10 ^ 6) ∧ r = .int (n : Int)
theorem WBad.same {B H : Hp} {v r : V} {m : Nat} (s : Same B H) (h : WBad K B v m r) : WBad K H v m r := by
  rcases h with ⟨h, e⟩ | ⟨p, xs, n, w, e, hp, hl, hw, ho, er⟩
  · exact .inl ⟨h.same s, e⟩
  · exact .inr ⟨p, xs, n, w, e, s _ _ hp, hl, hw, ho.same s, er⟩
def sp_x_need_weights (K : Frag) (Z : Adr) : Sp := fun vs H _ E => ∃ (v r : V) (m : Nat), vs = [v, .int (m : Int)] ∧ WBad K H v m r ∧ ∀ d H1, Same H H1 → H1 d = none → E (.ref Z.c_BadWeights) (some d) (upd H1 d (.xd [("index", r)]))
theorem okX_need_weights (T : Txt K mg Z) : FnOk P w K mg base (L2.CX P w) 3 Z.f_need_weights Z.d_need_weights p_need_weights (sp_x_need_weights K Z) := by
  refine T.F_need_weights.okX sc_need_weights (fun vs H Q E h => ?_) (fun cdv A outer s H vs Q E hr h => ?_)
  · obtain ⟨_, _, _, rfl, _⟩ := h; rfl
  · obtain ⟨v, r, m, rfl, hv, h⟩ := h
    have O := Own.refl H
    rcases hv with ⟨hv, rfl⟩ | ⟨p, xs, n, w', rfl, hp, ⟨hl1, hl2⟩, hw, ho, rfl⟩
    · refine ⟨_, (pss_cons (ps_if (PW.pt (pw_or (pt_not (pt_val (pe_callB (r := rIsi K) call_isi (by rfl) T.n_isinstance boot_isinstance (pa_cons (pv 0) (pa_cons (pe_bltn (v := .ty "tuple") (by rfl) T.n_tuple boot_tuple rfl) pa_nil))))) (pw_or1 (pt_not (pt_chain op_le op_le (pv 1) (pe_callB (r := R.rLen K) call_lenR (by rfl) T.n_len boot_len (pa_cons (pv 0) pa_nil)) (pe_globI rfl T.v_MOST_WEIGHTS)))))) (pss_one (ps_raise1 rfl (takes_of rfl rfl rfl rfl) T.ox_BadWeights T.ix_BadWeights T.tx_BadWeights (ok_BadWeights_init T) (hr.mono (by decide)) T.b_BadWeights_init rfl T.g_BadWeights (pa_cons pe_non pa_nil))) pss_nil)
    pss_never), ?_⟩
      rcases hv with hv | ⟨p, xs, rfl, hp, hn⟩
      · walk_at "g"
        refine a_isiNT hv ?_
        walk_at "g"
        exact fun d hd => h d _ O.st hd
      · have hpT : SqT K H p xs := SqT.of hp
        walk_at "g"
        refine a_isiT1 hp ?_
        walk_at "g"
        refine a_it2 (fun c => ?_) (fun c => ?_)
        · walk_at "g"
          exact fun d hd => h d _ O.st hd
        · walk_at "g"
          exact fun d hd => h d _ O.st hd
    · have hpT : SqT K H p xs := SqT.of hp
      refine ⟨_, (pss_cons (ps_if (PW.pt (pw_or (pt_not (pt_val (pe_callB (r := rIsi K) call_isi (by rfl) T.n_isinstance boot_isinstance (pa_cons (pv 0) (pa_cons (pe_bltn (v := .ty "tuple") (by rfl) T.n_tuple boot_tuple rfl) pa_nil))))) (pw_or1 (pt_not (pt_chain op_le op_le (pv 1) (pe_callB (r := R.rLen K) call_lenR (by rfl) T.n_len boot_len (pa_cons (pv 0) pa_nil)) (pe_globI rfl T.v_MOST_WEIGHTS)))))) (pss_one ps_never) pss_nil)
    (pss_one (ps_for (passes_of rfl) rfl (pi_enumT rfl T.n_enumerate (pa_cons (pv 0) pa_nil)) (pg_tup rfl (pgs_cons (pg_name (i := 2) sc_need_weights.nd rfl (Or.inl rfl)) (pgs_cons (pg_name (i := 3) sc_need_weights.nd rfl (Or.inl rfl)) pgs_nil)))
    (pss_one (ps_if (pt_not (pt_val (pe_call (okX_is_from T) (hr.mono (by decide)) rfl T.g_is_from T.F_is_from.kp T.b_is_from .nil pass0 (pa_cons (pv 3) (pa_cons (pe_un un_neg (pe_globI rfl T.v_MOST_WEIGHT)) (pa_cons (pe_globI rfl T.v_MOST_WEIGHT) pa_nil)))))) (pss_one (ps_raise1 rfl (takes_of rfl rfl rfl rfl) T.ox_BadWeights T.ix_BadWeights T.tx_BadWeights (ok_BadWeights_init T) (hr.mono (by decide)) T.b_BadWeights_init rfl T.g_BadWeights (pa_cons (pv 2) pa_nil))) pss_nil))))), ?_⟩
      walk_at "g"
      refine a_isiT1 hp ?_
      walk_at "g"
      refine ⟨p, _, rfl, SqT.of hp, ?_⟩
      refine for_it walk_enumT (fun i σ H' => i ≤ n ∧ ∃ v2 v3 Lw, σ = [some (.ref p), some (.int (m : Int)), v2, v3] ∧ Own H Lw H') ⟨Nat.zero_le _, _, _, _, rfl, O⟩ (fun i σ H' _ ⟨_, _, _, _, _, O⟩ => SqT.of (O.st _ _ hp)) ?_ ?_
      · clear O
        rintro i v σ H' H'' hi ⟨hin, v2, v3, Lw, rfl, O⟩ ⟨t, y1, y2, rfl, ht, rfl, e1, e2⟩
        have O := Own.new (o := .tup [y1, y2]) O ht
        have e1 : y1 = .int i := (Option.some.inj e1).symm
        have e2 : xs[i]? = some y2 := e2
        subst e1
        walk_at "g"
        by_cases c : i < n
        · obtain ⟨y, rfl, c1, c2⟩ := hw.2 i y2 c e2
          walk_at "g"
          refine use_x_is_from_ok ⟨c1, c2⟩ ?_
          walk_at "g"
          exact ⟨by omega, _, _, _, rfl, O⟩
        · have e : i = n := by omega
          subst e
          rw [hw.1] at e2
          cases e2
          refine use_x_is_from (ho.same O.st) ?_
          walk_at "g"
          exact fun d hd => h d _ O.st hd
      · rintro σ H' ⟨hin, _⟩
        exact absurd (List.getElem?_eq_some_iff.mp hw.1).1 (by omega)

/-! ### Sum_init_x -/
-- @NEEDS need_weights_x
inductive SOut where
  | base
  | take
  | at (r : V)
def SBad (K : Frag) (H : Hp) (b k f l : V) (o : SOut) : Prop := (OutR K H b 2 16 ∧ o = .base) ∨ (∃ bi, b = .int bi ∧ (2 ≤ bi ∧ bi ≤ 16) ∧ ((OutR K H k 1 2 ∧ o = .take) ∨
  (∃ ki, k = .int ki ∧ (1 ≤ ki ∧ ki ≤ 2) ∧ ((∃ r, WBad K H f 0 r ∧ o = .at r) ∨ (∃ (p : Addr) (ws : List Int) (r : V), f = .ref p ∧ H p = some (.tup (ws.map V.int)) ∧ ws.length ≤ 12 ∧ (∀ w ∈ ws, -(10 ^ 6) ≤ w ∧ w ≤ 10 ^ 6) ∧ WBad K H l 1 r ∧ o = .at r)))))
theorem SBad.same {B H : Hp} {b k f l : V} {o : SOut} (s : Same B H) (h : SBad K B b k f l o) : SBad K H b k f l o := by
  rcases h with ⟨h, e⟩ | ⟨bi, e1, e2, ⟨h, e⟩ | ⟨ki, e3, e4, ⟨r, h, e⟩ | ⟨p, ws, r, e5, hp, hl, hw, h, e⟩⟩⟩
  · exact .inl ⟨h.same s, e⟩
  · exact .inr ⟨bi, e1, e2, .inl ⟨h.same s, e⟩⟩
  · exact .inr ⟨bi, e1, e2, .inr ⟨ki, e3, e4, .inl ⟨r, h.same s, e⟩⟩⟩
  · exact .inr ⟨bi, e1, e2, .inr ⟨ki, e3, e4, .inr ⟨p, ws, r, e5, s _ _ hp, hl, hw, h.same s, e⟩⟩⟩
def SXOut (Z : Adr) (H : Hp) (o : SOut) (E : XK) : Prop := match o with
  | .base => E (.ref Z.c_BadBase) none H
  | .take => E (.ref Z.c_BadTake) none H
  | .at r => ∀ d H1, Same H H1 → H1 d = none → E (.ref Z.c_BadWeights) (some d) (upd H1 d (.xd [("index", r)]))
def sp_x_Sum_init (K : Frag) (Z : Adr) : Sp := fun vs H _ E => ∃ (x b k f l : V) (o : SOut), vs = [x, b, k, f, l] ∧ SBad K H b k f l o ∧ SXOut Z H o E
theorem okX_Sum_init (T : Txt K mg Z) : FnOk P w K mg base (L2.CX P w) 4 Z.f_Sum_init Z.d_Sum_init p_Sum_init (sp_x_Sum_init K Z) := by
  refine T.F_Sum_init.okX sc_Sum_init (fun vs H Q E h => ?_) (fun cdv A outer s H vs Q E hr h => ?_)
  · obtain ⟨_, _, _, _, _, _, rfl, _⟩ := h; rfl
  · obtain ⟨x, b, k, f, l, o, rfl, hv, h⟩ := h
    rcases hv with ⟨hb, rfl⟩ | ⟨bi, rfl, ⟨hb1, hb2⟩, ⟨hk, rfl⟩ | ⟨ki, rfl, ⟨hk1, hk2⟩, ⟨r, hf, rfl⟩ | ⟨p, ws, r, rfl, hp, hl, hw, hf, rfl⟩⟩⟩
    · refine ⟨_, (pss_cons (ps_expr (pe_call (okX_need_base T) (hr.mono (by decide)) rfl T.g_need_base T.F_need_base.kp T.b_need_base .nil (passes_call (takes_of rfl rfl rfl rfl) (fun _ _ _ _ h => h)) (pa_cons (pv 1) pa_nil)))
    pss_never), ?_⟩
      walk_at "g"
      exact ⟨_, rfl, hb, h⟩
    · refine ⟨_, (pss_cons (ps_expr (pe_call (ok_need_base T) (hr.mono (by decide)) rfl T.g_need_base T.F_need_base.kp T.b_need_base .nil pass0 (pa_cons (pv 1) pa_nil)))
    (pss_cons (ps_if (pt_not (pt_val (pe_call (okX_is_from T) (hr.mono (by decide)) rfl T.g_is_from T.F_is_from.kp T.b_is_from .nil pass0 (pa_cons (pv 2) (pa_cons pe_int (pa_cons (pe_globI rfl T.v_MOST_TAKE) pa_nil)))))) (pss_one (ps_raise0 rfl (takes_of rfl rfl rfl rfl) T.ox_BadTake T.ix_BadTake T.tx_BadTake (ok_BadTake_init T) (hr.mono (by decide)) T.b_BadTake_init rfl T.g_BadTake)) pss_nil)
    pss_never)), ?_⟩
      walk_at "g"
      refine use_x_is_from hk ?_
      walk_at "g"
      exact h
    · refine ⟨_, (pss_cons (ps_expr (pe_call (ok_need_base T) (hr.mono (by decide)) rfl T.g_need_base T.F_need_base.kp T.b_need_base .nil pass0 (pa_cons (pv 1) pa_nil)))
    (pss_cons (ps_if (pt_not (pt_val (pe_call (ok_is_from T) (hr.mono (by decide)) rfl T.g_is_from T.F_is_from.kp T.b_is_from .nil pass0 (pa_cons (pv 2) (pa_cons pe_int (pa_cons (pe_globI rfl T.v_MOST_TAKE) pa_nil)))))) (pss_one ps_never) pss_nil)
    (pss_cons (ps_expr (pe_call (okX_need_weights T) (hr.mono (by decide)) rfl T.g_need_weights T.F_need_weights.kp T.b_need_weights .nil (passes_call (takes_of rfl rfl rfl rfl) (fun _ _ _ _ h => h)) (pa_cons (pv 3) (pa_cons pe_int pa_nil))))
    pss_never))), ?_⟩
      walk_at "g"
      exact ⟨_, r, 0, rfl, hf, h⟩
    · refine ⟨_, (pss_cons (ps_expr (pe_call (ok_need_base T) (hr.mono (by decide)) rfl T.g_need_base T.F_need_base.kp T.b_need_base .nil pass0 (pa_cons (pv 1) pa_nil)))
    (pss_cons (ps_if (pt_not (pt_val (pe_call (ok_is_from T) (hr.mono (by decide)) rfl T.g_is_from T.F_is_from.kp T.b_is_from .nil pass0 (pa_cons (pv 2) (pa_cons pe_int (pa_cons (pe_globI rfl T.v_MOST_TAKE) pa_nil)))))) (pss_one ps_never) pss_nil)
    (pss_cons (ps_expr (pe_call (ok_need_weights T) (hr.mono (by decide)) rfl T.g_need_weights T.F_need_weights.kp T.b_need_weights .nil pass0 (pa_cons (pv 3) (pa_cons pe_int pa_nil))))
    (pss_cons (ps_expr (pe_call (okX_need_weights T) (hr.mono (by decide)) rfl T.g_need_weights T.F_need_weights.kp T.b_need_weights .nil (passes_call (takes_of rfl rfl rfl rfl) (fun _ _ _ _ h => h)) (pa_cons (pv 4) (pa_cons pe_int pa_nil))))
    pss_never)))), ?_⟩
      walk_at "g"
      refine ⟨p, ws, 0, rfl, hp, by omega, hl, hw, fun H' s => ?_⟩
      walk_at "g"
      exact ⟨_, r, 1, rfl, hf.same s, fun d H1 s1 hd => h d H1 (s.trans s1) hd⟩

/-! ### need_sum_x -/
def sp_x_need_sum (K : Frag) (Z : Adr) : Sp := fun vs H _ E => ∃ v, vs = [v] ∧ NoI K H v ∧ E (.ref Z.c_BadSum) none H
theorem okX_need_sum (T : Txt K mg Z) : FnOk P w K mg base (L2.CX P w) 3 Z.f_need_sum Z.d_need_sum p_need_sum (sp_x_need_sum K Z) := by
  refine T.F_need_sum.okX sc_need_sum (fun vs H Q E h => ?_) (fun cdv A outer s H vs Q E hr h => ?_)
  · obtain ⟨_, rfl, _⟩ := h; rfl
  · obtain ⟨v, rfl, hv, h⟩ := h
    refine ⟨_, (pss_one (ps_if (pt_not (pt_val (pe_callB (r := rIsi K) call_isi (by rfl) T.n_isinstance boot_isinstance (pa_cons (pv 0) (pa_cons (pe_glob rfl T.g_Sum (v := .ref Z.c_Sum) rfl) pa_nil))))) (pss_one (ps_raise0 rfl (takes_of rfl rfl rfl rfl) T.ox_BadSum T.ix_BadSum T.tx_BadSum (ok_BadSum_init T) (hr.mono (by decide)) T.b_BadSum_init rfl T.g_BadSum)) pss_nil)), ?_⟩
    walk_at "g"
    refine a_isiC T.ty_Sum hv ?_
    walk_at "g"
    exact h

/-! ### total_x -/
def sp_x_total (K : Frag) (Z : Adr) : Sp := fun vs H _ E => ∃ v0 v1 : V, vs = [v0, v1] ∧ ((NoI K H v0 ∧ (E (.ref Z.c_BadSum) none H)))
theorem okX_total (T : Txt K mg Z) : FnOk P w K mg base (L2.CX P w) 4 Z.f_total Z.d_total p_total (sp_x_total K Z) := by
  refine T.F_total.okX sc_total (fun vs H Q E h => ?_) (fun cdv A outer s H vs Q E hr h => ?_)
  · obtain ⟨_, _, rfl, _⟩ := h; rfl
  · obtain ⟨v0, v1, rfl, h⟩ := h
    obtain ⟨hb, h⟩ := h
    · refine ⟨_, (pss_cons (ps_expr (pe_call (okX_need_sum T) (hr.mono (by decide)) rfl T.g_need_sum T.F_need_sum.kp T.b_need_sum .nil (passes_call (takes_of rfl rfl rfl rfl) (fun _ _ _ _ h => h)) (pa_cons (pv 0) pa_nil)))
    pss_never), ?_⟩
      walk_at "g"
      exact ⟨_, rfl, hb, h⟩

/-! ### number_in_x -/
def sp_x_number_in (K : Frag) (Z : Adr) : Sp := fun vs H _ E => ∃ (p : Addr) (xs : List V) (n lo hi : Int), vs = [.ref p, .int n, .int lo, .int hi] ∧ H p = some (.lst xs) ∧ (xs.length : Int) ≤ n ∧ n ≤ 1000 ∧ ∀ d, H d = none → E (.ref Z.c_InvalidText) (some d) (upd H d (.xd [("word", .int (n + 1))]))
theorem okX_number_in (T : Txt K mg Z) : FnOk P w K mg base (L2.CX P w) 3 Z.f_number_in Z.d_number_in p_number_in (sp_x_number_in K Z) := by
  refine T.F_number_in.okX sc_number_in (fun vs H Q E h => ?_) (fun cdv A outer s H vs Q E hr h => ?_)
  · obtain ⟨_, _, _, _, _, rfl, _⟩ := h; rfl
  · obtain ⟨p, xs, n, lo, hi, rfl, hp, hn, hn2, h⟩ := h
    refine ⟨_, (pss_cons (ps_if (PW.pt (pw_or (pt_cmpR op_ge (pv 1) (pe_callB (r := R.rLen K) call_lenR (by rfl) T.n_len boot_len (pa_cons (pv 0) pa_nil)) (nomark _)) (pw_or1 pt_never))) (pss_one (ps_raise1 rfl (takes_of rfl rfl rfl rfl) T.ox_InvalidText T.ix_InvalidText T.tx_InvalidText (ok_InvalidText_init T) (hr.mono (by decide)) T.b_InvalidText_init rfl T.g_InvalidText (pa_cons (pe_op op_add (pv 1) pe_int) pa_nil))) pss_nil)
    pss_never), ?_⟩
    walk_at "g"
    refine a_len (.inl (SqL.of hp)) ?_
    walk_at "g"
    exact h

/-! ### need_word -/
def sp_need_word (K : Frag) : Sp := fun vs H Q _ => ∃ (p : Addr) (z : Str) (xs : List V), vs = [.ref p, .int 0, .str z] ∧ H p = some (.lst (.str z :: xs)) ∧ ∀ H', Same H H' → Q .non H'
theorem ok_need_word (T : Txt K mg Z) : FnOk P w K mg base CX0 1 Z.f_need_word Z.d_need_word p_need_word (sp_need_word K) := by
  refine T.F_need_word.ok sc_need_word (fun vs H Q E h => ?_) (fun cdv A outer s H vs Q E hr h => ?_)
  · obtain ⟨_, _, _, rfl, _⟩ := h; rfl
  · obtain ⟨p, z, xs, rfl, hp, h⟩ := h
    have O := Own.refl H
    refine ⟨_, (pss_one (ps_if (pt_cmpR (r := rNeS K) (op_neS hr.units) (pe_slice (r := rSlL K) sl_list (pv 0) (po_some (pv 1)) (po_some (pe_op op_add (pv 1) pe_int))) (pe_lst (pa_cons (pv 2) pa_nil)) (nomark _)) (pss_one ps_never) pss_nil)), ?_⟩
    walk_at "g"
    refine a_slLV O (SqL.of hp) (fun l1 H1 hl1 O => ?_)
    have e : cutV (V.str z :: xs) (some 0) (some (0 + 1)) = [.str z] := by
      unfold cutV
      rw [show (some (0 : Int)) = some ((0 : Nat) : Int) from rfl, HT.sIx_nat, show (some ((0 : Int) + 1)) = some ((1 : Nat) : Int) from rfl, HT.sIx_nat]
      simp
    rw [e] at O
    walk_at "g"; walk_at "mkL"; intro l2 H2 hl2 O
    walk_at "g"
    refine a_neSL (fun v hv => by rw [List.mem_singleton.mp hv]; exact .inl rfl) (Own.sq O 1 rfl) (Own.sq O 0 rfl) ?_
    walk_at "g"
    exact h _ O.st

/-! ### read_x -/
-- @NEEDS need_word number_in_x
/-- read("base") -/
def sp_x_read (K : Frag) (Z : Adr) : Sp := fun vs H _ E => vs = [.str "base"] ∧ ∀ d H1, Same H H1 → H1 d = none → E (.ref Z.c_InvalidText) (some d) (upd H1 d (.xd [("word", .int 2)]))
theorem okX_read (T : Txt K mg Z) : FnOk P w K mg base (L2.CX P w) 4 Z.f_read Z.d_read p_read (sp_x_read K Z) := by
  refine T.F_read.okX sc_read (fun vs H Q E h => ?_) (fun cdv A outer s H vs Q E hr h => ?_)
  · obtain ⟨rfl, _⟩ := h; rfl
  · obtain ⟨rfl, h⟩ := h
    have O := Own.refl H
    refine ⟨_, (pss_cons (ps_setLc (i := 1) rfl sc_read.nd rfl rfl (sw_true rfl rfl rfl (by decide +kernel)) (own := [("word", 5)]) (pi_list (pe_bm PySem.F.plainAttrs_str PySem.F.slot_str_split PySem.F.type_str_split mt_split (pv 0) (pa_cons pe_str pa_nil))) (blkOk_by (N := N_read) (sc := defScope s_read) (by decide +kernel)) (fun _ _ _ _ _ => (pg_name (i := 5) sc_read.nd rfl (Or.inl rfl))) (fun _ _ _ _ _ => (pts_one (pt_cmpR op_ne (pv 5) pe_str (nomark _)))) (fun _ _ _ _ _ => (pv 5)))
    (pss_cons (ps_expr (pe_call (ok_need_word T) (hr.mono (by decide)) rfl T.g_need_word T.F_need_word.kp T.b_need_word .nil pass0 (pa_cons (pv 1) (pa_cons pe_int (pa_cons pe_str pa_nil)))))
    (pss_cons (ps_set (i := 2) sc_read.nd rfl (Or.inl rfl) (pe_call (okX_number_in T) (hr.mono (by decide)) rfl T.g_number_in T.F_number_in.kp T.b_number_in .nil (passes_call (takes_of rfl rfl rfl rfl) (fun _ _ _ _ h => h)) (pa_cons (pv 1) (pa_cons pe_int (pa_cons (pe_globI rfl T.v_LEAST_BASE) (pa_cons (pe_globI rfl T.v_MOST_BASE) pa_nil))))))
    pss_never))), ?_⟩
    walk_at "g"
    refine ⟨rfl, ?_⟩
    walk_at "g"
    refine ⟨_, _, rfl, rfl, rfl, by rw [sizeLine_eq]; decide, fun q hq => ?_⟩
    rw [show (Txt.split (Str.ofString "base") (Str.ofString " ")).map V.str = [.str "base"] from by decide +kernel]
    replace O := Own.new (o := .lst [.str "base"]) O hq
    refine ⟨q, rfl, ⟨_, Own.sq O 0 rfl⟩, fun D hD => ?_⟩
    replace O := Own.new (o := .lst []) O hD
    refine lc_list (xs := [.str "base"]) (fun i H' => Own H [(D, .lst (([.str "base"] : List V).take i)), (q, .lst [.str "base"])] H') O (fun i H' _ O => Own.sq O 1 rfl) ?_ ?_
    · clear O
      rintro i v H' hi O
      have hi0 : i = 0 := by
        obtain ⟨hl, _⟩ := List.getElem?_eq_some_iff.mp hi
        simpa using hl
      subst hi0
      obtain rfl : v = .str "base" := (Option.some.inj hi).symm
      walk_at "g"
      refine ⟨rfl, ?_⟩
      walk_at "g"
      refine ⟨rfl, ?_⟩
      rw [show (!decide (V.str (Str.ofString "base") = V.str (Str.ofString ""))) = true from by decide +kernel]
      walk_at "g"
      refine ⟨_, O.get 0 rfl, by rw [sizeLine_eq]; decide, ?_⟩
      exact Own.put (u := .lst [.str "base"]) O 0 rfl
    · clear O
      rintro H' O
      walk_at "g"
      refine ⟨D, _, [], rfl, O.get 0 rfl, fun H2 s => ?_⟩
      have O := O.same s
      walk_at "g"
      exact ⟨D, _, _, _, _, rfl, O.get 0 rfl, by simp, by omega, fun d hd => h d _ O.st hd⟩

/-! ### need_pairs_x -/
def PairOk (H : Hp) (x : V) : Prop := ∃ q a b, x = .ref q ∧ H q = some (.tup [.int a, .int b]) ∧ (-(10 ^ 40) ≤ a ∧ a ≤ 10 ^ 40) ∧ (-(10 ^ 40) ≤ b ∧ b ≤ 10 ^ 40)
def PairBad (K : Frag) (H : Hp) (w : V) : Prop := NotTup K H w ∨ ∃ q ys, w = .ref q ∧ H q = some (.tup ys) ∧ (ys.length ≠ 2 ∨ (ys.length = 2 ∧ (∀ y ∈ ys, flatV y = true) ∧ ys.all (frB (-(10 ^ 40)) (10 ^ 40)) = false))
theorem PairOk.same {B H : Hp} {x : V} (s : Same B H) (h : PairOk B x) : PairOk H x := by
  obtain ⟨q, a, b, e, h, r⟩ := h
  exact ⟨q, a, b, e, s _ _ h, r⟩
theorem PairBad.same {B H : Hp} {x : V} (s : Same B H) (h : PairBad K B x) : PairBad K H x := by
  rcases h with h | ⟨q, ys, e, h, r⟩
  · exact .inl (h.same s)
  · exact .inr ⟨q, ys, e, s _ _ h, r⟩
theorem use_flat {y : V} {lo hi : Int} {H : Hp} {Q : VK} {E : XK} (f : flatV y = true) (q : Q (.bl (frB lo hi y)) H) : sp_x_is_from K ([y, .int lo, .int hi] ++ []) H Q E := by
  cases y with
  | non => exact use_x_is_from (.inl .non) q
  | bl b => exact use_x_is_from (.inl (.bl b)) q
  | str z => exact use_x_is_from (.inl (.str z)) q
  | int i => exact use_x_is_from_int q
  | byt b => cases f
  | flt b => cases f
  | ref a => cases f
  | ty a => cases f
def sp_x_need_pairs (K : Frag) (Z : Adr) : Sp := fun vs H _ E => ∃ v, vs = [v] ∧ ((NoRow K H v 1 10 ∧ ∀ d H1, Same H H1 → H1 d = none → E (.ref Z.c_BadPairs) (some d) (upd H1 d (.xd [("index", .non)]))) ∨
  ∃ (p : Addr) (xs : List V) (n : Nat) (w : V), v = .ref p ∧ H p = some (.lst xs) ∧ (1 ≤ xs.length ∧ xs.length ≤ 10) ∧ WrongAt xs n w (PairOk H) ∧ PairBad K H w ∧ ∀ d H1, Same H H1 → H1 d = none → E (.ref Z.c_BadPairs) (some d) (upd H1 d (.xd [("index", .int (n : Int))])))
theorem okX_need_pairs (T : Txt K mg Z) : FnOk P w K mg base (L2.CX P w) 3 Z.f_need_pairs Z.d_need_pairs p_need_pairs (sp_x_need_pairs K Z) := by
  refine T.F_need_pairs.okX sc_need_pairs (fun vs H Q E h => ?_) (fun cdv A outer s H vs Q E hr h => ?_)
  · obtain ⟨_, rfl, _⟩ := h; rfl
  · obtain ⟨v, rfl, h⟩ := h
    have O := Own.refl H
    rcases h with ⟨hv, h⟩ | ⟨p, xs, n, w', rfl, hp, ⟨hl1, hl2⟩, hw, hbad, h⟩
    · refine ⟨_, (pss_cons (ps_if (PW.pt (pw_or (pt_not (pt_val (pe_callB (r := rIsiT K) call_isiT (by rfl) T.n_isinstance boot_isinstance (pa_cons (pv 0) (pa_cons (pe_tup (pa_cons (pe_bltn (v := .ty "list") (by rfl) T.n_list boot_list rfl) (pa_cons (pe_bltn (v := .ty "tuple") (by rfl) T.n_tuple boot_tuple rfl) pa_nil))) pa_nil))))) (pw_or1 (pt_not (pt_chain op_le op_le pe_int (pe_callB (r := R.rLen K) call_lenR (by rfl) T.n_len boot_len (pa_cons (pv 0) pa_nil)) (pe_globI rfl T.v_MOST_PAIRS)))))) (pss_one (ps_raise1 rfl (takes_of rfl rfl rfl rfl) T.ox_BadPairs T.ix_BadPairs T.tx_BadPairs (ok_BadPairs_init T) (hr.mono (by decide)) T.b_BadPairs_init rfl T.g_BadPairs (pa_cons pe_non pa_nil))) pss_nil)
    pss_never), ?_⟩
      walk_at "g"; walk_at "mkT"; intro tp H1 htp O
      walk_at "g"
      rcases hv with hv | ⟨p, xs, rfl, hp, hn⟩
      · refine a_isiN2 (hv.same O.st) (O.get 0 rfl) ?_
        walk_at "g"
        exact fun d hd => h d _ O.st hd
      · refine a_isiE (hp.up O.st) (O.get 0 rfl) ?_
        walk_at "g"
        refine a_lenE (hp.up O.st) ?_
        walk_at "g"
        refine a_it2 (fun c => ?_) (fun c => ?_)
        · walk_at "g"
          exact fun d hd => h d _ O.st hd
        · walk_at "g"
          exact fun d hd => h d _ O.st hd
    · have hE : EAt H p xs := .inl hp
      refine ⟨_, (pss_cons (ps_if (PW.pt (pw_or (pt_not (pt_val (pe_callB (r := rIsiT K) call_isiT (by rfl) T.n_isinstance boot_isinstance (pa_cons (pv 0) (pa_cons (pe_tup (pa_cons (pe_bltn (v := .ty "list") (by rfl) T.n_list boot_list rfl) (pa_cons (pe_bltn (v := .ty "tuple") (by rfl) T.n_tuple boot_tuple rfl) pa_nil))) pa_nil))))) (pw_or1 (pt_not (pt_chain op_le op_le pe_int (pe_callB (r := R.rLen K) call_lenR (by rfl) T.n_len boot_len (pa_cons (pv 0) pa_nil)) (pe_globI rfl T.v_MOST_PAIRS)))))) (pss_one ps_never) pss_nil)
    (pss_one (ps_for (passes_of rfl) rfl (pi_either (pi_enum rfl T.n_enumerate (pa_cons (pv 0) pa_nil)) (pi_enumT rfl T.n_enumerate (pa_cons (pv 0) pa_nil))) (pg_tup rfl (pgs_cons (pg_name (i := 1) sc_need_pairs.nd rfl (Or.inl rfl)) (pgs_cons (pg_name (i := 2) sc_need_pairs.nd rfl (Or.inl rfl)) pgs_nil)))
    (pss_cons (ps_if (PW.pt (pw_or (pt_not (pt_val (pe_callB (r := rIsi K) call_isi (by rfl) T.n_isinstance boot_isinstance (pa_cons (pv 2) (pa_cons (pe_bltn (v := .ty "tuple") (by rfl) T.n_tuple boot_tuple rfl) pa_nil))))) (pw_or1 (pt_cmpR op_ne (pe_callB (r := R.rLen K) call_lenR (by rfl) T.n_len boot_len (pa_cons (pv 2) pa_nil)) pe_int (nomark _))))) (pss_one (ps_raise1 rfl (takes_of rfl rfl rfl rfl) T.ox_BadPairs T.ix_BadPairs T.tx_BadPairs (ok_BadPairs_init T) (hr.mono (by decide)) T.b_BadPairs_init rfl T.g_BadPairs (pa_cons (pv 1) pa_nil))) pss_nil)
    (pss_one (ps_if (pt_not (pt_val (pe_callB (r := rAll K) (cr_all rfl) (by rfl) T.n_all boot_all (pa_cons (pe_lc (own := [("one", 3)]) (tt := tYes) rfl sc_need_pairs.nd (pi_tup (pv 2)) (blkOk_by (N := N_need_pairs) (sc := defScope s_need_pairs) (by decide +kernel)) (fun _ _ _ _ _ => (pg_name (i := 3) sc_need_pairs.nd rfl (Or.inl rfl))) (fun _ _ _ _ _ => pts_nil) (fun _ _ _ _ _ => (pe_call (okX_is_from T) (hr.mono (by decide)) rfl T.g_is_from T.F_is_from.kp T.b_is_from .nil pass0 (pa_cons (pv 3) (pa_cons (pe_un un_neg (pe_globI rfl T.v_MOST_NUMBER)) (pa_cons (pe_globI rfl T.v_MOST_NUMBER) pa_nil)))))) pa_nil)))) (pss_one (ps_raise1 rfl (takes_of rfl rfl rfl rfl) T.ox_BadPairs T.ix_BadPairs T.tx_BadPairs (ok_BadPairs_init T) (hr.mono (by decide)) T.b_BadPairs_init rfl T.g_BadPairs (pa_cons (pv 1) pa_nil))) pss_nil)))))), ?_⟩
      walk_at "g"; walk_at "mkT"; intro tp H1 htp O
      walk_at "g"
      refine a_isiE (hE.up O.st) (O.get 0 rfl) ?_
      walk_at "g"
      refine a_lenE (hE.up O.st) ?_
      walk_at "g"
      have s1 : Same H H1 := O.st
      refine for_enumE (hE.up O.st) rfl (fun i σ H' => i ≤ n ∧ ∃ v1 v2 v3 Lw, σ = [some (.ref p), v1, v2, v3] ∧ Own H1 Lw H') ⟨Nat.zero_le _, _, _, _, [], rfl, Own.refl H1⟩ (fun i σ H' ⟨_, _, _, _, _, _, O⟩ => O.st) ?_ ?_
      · clear O
        rintro i x T2 σ H' hi ⟨hin, v1, v2, v3, Lw, rfl, O⟩ hT
        have O := Own.new (o := .tup [.int (i : Nat), x]) O hT
        have sH := s1.trans O.st
        have cls : (NotTup K H x ∧ i = n) ∨ ∃ q ys, x = .ref q ∧ H q = some (.tup ys) ∧ ((ys.length ≠ 2 ∧ i = n) ∨ (ys.length = 2 ∧ (∀ y ∈ ys, flatV y = true) ∧ ((ys.all (frB (-(10 ^ 40)) (10 ^ 40)) = true ∧ i < n) ∨ (ys.all (frB (-(10 ^ 40)) (10 ^ 40)) = false ∧ i = n)))) := by
          by_cases c : i < n
          · obtain ⟨q, a, b, rfl, e, ⟨a1, a2⟩, b1, b2⟩ := hw.2 i x c hi
            refine .inr ⟨q, _, rfl, e, .inr ⟨rfl, fun y hy => ?_, .inl ⟨?_, c⟩⟩⟩
            · simp only [List.mem_cons, List.not_mem_nil, or_false] at hy
              rcases hy with rfl | rfl <;> rfl
            · show (frB _ _ (.int a) && (frB _ _ (.int b) && true)) = true
              have fr : ∀ z : Int, -(10 ^ 40) ≤ z → z ≤ 10 ^ 40 → frB (-(10 ^ 40)) (10 ^ 40) (.int z) = true := fun z h1 h2 => by
                show (decide _ && decide _) = true
                rw [decide_eq_true h1, decide_eq_true h2]; rfl
              rw [fr a a1 a2, fr b b1 b2]; rfl
          · have e : i = n := by omega
            subst e
            rw [hw.1] at hi
            cases hi
            rcases hbad with b | ⟨q, ys, rfl, e, b | ⟨b1, b2, b3⟩⟩
            · exact .inl ⟨b, rfl⟩
            · exact .inr ⟨q, ys, rfl, e, .inl ⟨b, rfl⟩⟩
            · exact .inr ⟨q, ys, rfl, e, .inr ⟨b1, b2, .inr ⟨b3, rfl⟩⟩⟩
        walk_at "g"
        rcases cls with ⟨b, rfl⟩ | ⟨q, ys, rfl, e, cls⟩
        · refine a_isiNT (b.same sH) ?_
          walk_at "g"
          exact fun d hd => h d _ sH hd
        · have e' := sH _ _ e
          have eT : SqT K _ q ys := SqT.of e'
          refine a_isiT1 e' ?_
          walk_at "g"
          rcases cls with ⟨b, rfl⟩ | ⟨b1, b2, cls⟩
          · walk_at "g"
            exact fun d hd => h d _ sH hd
          · walk_at "g"
            refine ⟨q, rfl, ⟨_, eT⟩, fun D hD => ?_⟩
            replace O := Own.new (o := .lst []) O hD
            refine lc_tup (xs := ys) (fun j H'' => Own H1 ((D, .lst (((ys.take j).map (frB (-(10 ^ 40)) (10 ^ 40))).map V.bl)) :: (T2, .tup [.int (i : Nat), .ref q]) :: Lw) H'') O (fun j H'' _ O => SqT.of (O.st _ _ (s1 _ _ e))) ?_ ?_
            · clear O
              rintro j y H'' hj O
              walk_at "g"
              refine ⟨rfl, ?_⟩
              walk_at "g"
              refine use_flat (b2 y (List.mem_of_getElem? hj)) ?_
              walk_at "g"
              refine ⟨_, O.get 0 rfl, ?_, ?_⟩
              · rw [List.length_map, List.length_map, List.length_take]
                exact Nat.lt_of_lt_of_le (show _ < 1000 by omega) (by decide)
              · rw [bl_snoc hj, List.map_append]
                exact Own.put O 0 rfl
            · clear O
              rintro H'' O
              rw [List.take_length] at O
              walk_at "g"
              refine ⟨D, _, rfl, Own.sq O 0 rfl, ?_⟩
              have ea : (ys.map (frB (-(10 ^ 40)) (10 ^ 40))).all id = ys.all (frB (-(10 ^ 40)) (10 ^ 40)) := by rw [List.all_map]; rfl
              rw [ea]
              rcases cls with ⟨c1, c2⟩ | ⟨c1, rfl⟩
              · rw [c1]
                walk_at "g"
                exact ⟨by omega, _, _, _, _, rfl, O⟩
              · rw [c1]
                walk_at "g"
                exact fun d hd => h d _ (s1.trans O.st) hd
      · rintro σ H' ⟨hin, _⟩
        exact absurd (List.getElem?_eq_some_iff.mp hw.1).1 (by omega)

/-! ### fitting_x -/
-- @NEEDS need_pairs_x
def sp_x_fitting (K : Frag) (Z : Adr) : Sp := fun vs H _ E => ∃ v, vs = [v] ∧ ((NoRow K H v 1 10 ∧ ∀ d H1, Same H H1 → H1 d = none → E (.ref Z.c_BadPairs) (some d) (upd H1 d (.xd [("index", .non)]))) ∨
  ∃ (p : Addr) (xs : List V) (n : Nat) (w : V), v = .ref p ∧ H p = some (.lst xs) ∧ (1 ≤ xs.length ∧ xs.length ≤ 10) ∧ WrongAt xs n w (PairOk H) ∧ PairBad K H w ∧ ∀ d H1, Same H H1 → H1 d = none → E (.ref Z.c_BadPairs) (some d) (upd H1 d (.xd [("index", .int (n : Int))])))
theorem okX_fitting (T : Txt K mg Z) : FnOk P w K mg base (L2.CX P w) 4 Z.f_fitting Z.d_fitting p_fitting (sp_x_fitting K Z) := by
  refine T.F_fitting.okX sc_fitting (fun vs H Q E h => ?_) (fun cdv A outer s H vs Q E hr h => ?_)
  · obtain ⟨_, rfl, _⟩ := h; rfl
  · obtain ⟨v, rfl, h⟩ := h
    refine ⟨_, (pss_cons (ps_expr (pe_call (okX_need_pairs T) (hr.mono (by decide)) rfl T.g_need_pairs T.F_need_pairs.kp T.b_need_pairs .nil (passes_call (takes_of rfl rfl rfl rfl) (fun _ _ _ _ h => h)) (pa_cons (pv 0) pa_nil)))
    pss_never), ?_⟩
    walk_at "g"
    exact ⟨v, rfl, h⟩

/-! ### law_taken -/
/-- the row of draws as it stands -/
def RowOk (sc : Addr) (o : HO) : Prop := ∃ i s c : Int, o = .lst [.ref sc, .int i, .int s, .int c] ∧ 0 ≤ i ∧ 0 ≤ s ∧ s < 2147483647 ∧ 0 ≤ c
def sp_law_taken (K : Frag) : Sp := fun vs H Q _ => ∃ (row sc : Addr) (o : HO) (ns : List Int) (m : Int), vs = [.ref row, .int m] ∧ H row = some o ∧ RowOk sc o ∧ SqL K H sc (ns.map V.int) ∧ 0 < m ∧ m < 10 ^ 60 ∧
  ∀ (r : Int) (o' : HO) (H' : Hp), 0 ≤ r → r < m → RowOk sc o' → H' row = some o' → (∀ b v, b ≠ row → H b = some v → H' b = some v) → Q (.int r) H'
theorem row_ne {K : Frag} {H : Hp} {row sc : Addr} {o : HO} {ns : List Int} (h : H row = some o) (r : RowOk sc o) (hs : SqL K H sc (ns.map V.int)) : SqL K (del1 H row) sc (ns.map V.int) := by
  obtain ⟨i, s, c, rfl, _⟩ := r
  have d : ∀ ns : List Int, (ns.map V.int) ≠ [.ref sc, .int i, .int s, .int c] := fun ns e => by
    cases ns with
    | nil => cases e
    | cons a l => injection e with e1 _; cases e1
  rcases hs with (hs | ⟨q, hs⟩) | hs
  · have ne : sc ≠ row := fun z => by
      rw [z, h] at hs
      injection hs with e
      injection e with e
      exact d ns e.symm
    exact .inl (.inl (by rw [del1_ne ne]; exact hs))
  · have ne : sc ≠ row := fun z => by
      rw [z, h] at hs
      injection hs with e
      cases e
    exact .inl (.inr ⟨q, by rw [del1_ne ne]; exact hs⟩)
  · exact .inr hs
theorem use_law_taken {K : Frag} {B H : Hp} {Lw : List (Addr × HO)} {row sc : Addr} {o : HO} {ns : List Int} {m : Int} {Q : VK} {E : XK} (O : Own B Lw H) (i : Nat) (hi : Lw[i]? = some (row, o)) (ho : RowOk sc o) (hs : SqL K B sc (ns.map V.int)) (h1 : 0 < m ∧ m < 10 ^ 60)
    (h : ∀ (r : Int) (o' : HO) (H' : Hp), 0 ≤ r → r < m → RowOk sc o' → Own B (Lw.set i (row, o')) H' → Q (.int r) H') : sp_law_taken K ([.ref row, .int m] ++ []) H Q E :=
  ⟨row, sc, o, ns, m, rfl, O.get i hi, ho, O.seq hs, h1.1, h1.2, fun r o' H' hr0 hr1 ho' h1 h2 => h r o' H' hr0 hr1 ho' (O.but i hi h2 h1)⟩
theorem ok_law_taken (T : Txt K mg Z) : FnOk P w K mg base CX0 1 Z.f_law_taken Z.d_law_taken p_law_taken (sp_law_taken K) := by
  refine T.F_law_taken.ok sc_law_taken (fun vs H Q E h => ?_) (fun cdv A outer s H vs Q E hr h => ?_)
  · obtain ⟨_, _, _, _, _, rfl, _⟩ := h; rfl
  · obtain ⟨row, sc, o, ns, m, rfl, hrow, hok, hs, hm0, hm1, h⟩ := h
    have hs1 := row_ne hrow hok hs
    have O := Own.refl1 hrow
    obtain ⟨i, s0, c, rfl, hi0, hs0, hs2, hc0⟩ := hok
    refine ⟨_, (pss_cons (ps_if (pt_cmpR op_gt (pe_ix (r := rIxL K) ix_list (pv 0) pe_int (fun _ _ => rfl)) pe_int (nomark _)) (pss_cons (ps_set (i := 2) sc_law_taken.nd rfl (Or.inl rfl) (pe_op op_mod (pe_callTy call_int1 (by rfl) T.n_int boot_int (pa_cons (pe_ix (r := rIxL K) ix_list (pv 0) pe_int (fun _ _ => rfl)) pa_nil)) (pv 1)))
    (pss_cons (ps_asg (pe_op op_fdivW (pe_ix (r := rIxL K) ix_list (pv 0) pe_int (fun _ _ => rfl)) (pv 1)) (pg_sub (pv 0) pe_int set_list))
    (pss_one (ps_ret (pv 2))))) pss_nil)
    (pss_cons (ps_asg (pe_op op_add (pe_ix (r := rIxL K) ix_list (pv 0) pe_int (fun _ _ => rfl)) pe_int) (pg_sub (pv 0) pe_int set_list))
    (pss_cons (ps_if (pt_cmpR op_gt (pe_ix (r := rIxL K) ix_list (pv 0) pe_int (fun _ _ => rfl)) (pe_callB (r := R.rLen K) call_lenR (by rfl) T.n_len boot_len (pa_cons (pe_ix (r := rIxL K) ix_list (pv 0) pe_int (fun _ _ => rfl)) pa_nil)) (nomark _)) (pss_cons (ps_asg (pe_op op_mod (pe_callTy call_int1 (by rfl) T.n_int boot_int (pa_cons (pe_op op_add (pe_op op_mulX (pe_ix (r := rIxL K) ix_list (pv 0) pe_int (fun _ _ => rfl)) pe_int) pe_int) pa_nil)) pe_int) (pg_sub (pv 0) pe_int set_list))
    (pss_one (ps_ret (pe_op op_mod (pe_callTy call_int1 (by rfl) T.n_int boot_int (pa_cons (pe_op op_fdivW (pe_ix (r := rIxL K) ix_list (pv 0) pe_int (fun _ _ => rfl)) pe_int) pa_nil)) (pv 1))))) pss_nil)
    (pss_cons (ps_set (i := 3) sc_law_taken.nd rfl (Or.inl rfl) (pe_ix (r := rIxL K) ix_list (pe_ix (r := rIxL K) ix_list (pv 0) pe_int (fun _ _ => rfl)) (pe_op op_sub (pe_ix (r := rIxL K) ix_list (pv 0) pe_int (fun _ _ => rfl)) pe_int) (fun _ _ => rfl)))
    (pss_cons (ps_asg (pe_op op_mod (pe_callTy call_int1 (by rfl) T.n_int boot_int (pa_cons (pe_op op_add (pe_op op_add (pe_op op_mulX (pe_ix (r := rIxL K) ix_list (pv 0) pe_int (fun _ _ => rfl)) pe_int) (pv 3)) pe_int) pa_nil)) pe_int) (pg_sub (pv 0) pe_int set_list))
    (pss_cons (ps_if (pt_cmpR op_ge (pv 3) (pe_op op_pow pe_int pe_int) (nomark _)) (pss_one (ps_asg (pe_op op_fdivW (pv 3) (pv 1)) (pg_sub (pv 0) pe_int set_list))) pss_nil)
    (pss_one (ps_ret (pe_op op_mod (pe_callTy call_int1 (by rfl) T.n_int boot_int (pa_cons (pv 3) pa_nil)) (pv 1)))))))))), ?_⟩
    walk_at "g"
    refine a_it2 (fun c1 => ?_) (fun c1 => ?_)
    · walk_at "g"
      refine h _ _ _ (Int.emod_nonneg _ (by omega)) (Int.emod_lt_of_pos _ hm0) ?_ (Own.get (by assumption) 0 rfl) (Own.toBut (by assumption))
      exact ⟨_, _, _, rfl, hi0, hs0, hs2, Int.ediv_nonneg hc0 (by omega)⟩
    · walk_at "g"
      refine a_it2 (fun c2 => ?_) (fun c2 => ?_)
      · walk_at "g"
        refine h _ _ _ (Int.emod_nonneg _ (by omega)) (Int.emod_lt_of_pos _ hm0) ?_ (Own.get (by assumption) 0 rfl) (Own.toBut (by assumption))
        exact ⟨_, _, _, rfl, by omega, by omega, by omega, hc0⟩
      · rw [List.length_map] at c2
        have hlt : i.toNat < ns.length := by omega
        walk_at "g"
        refine a_ixL (v := .int (ns[i.toNat])) (Own.seq (by assumption) hs1) (at0 (j := i.toNat) (by omega) (by rw [List.getElem?_map, List.getElem?_eq_getElem hlt]; rfl)) ?_
        generalize ns[i.toNat] = cell
        walk_at "g"
        refine a_it2 (fun c3 => ?_) (fun c3 => ?_)
        · walk_at "g"
          refine h _ _ _ (Int.emod_nonneg _ (by omega)) (Int.emod_lt_of_pos _ hm0) ?_ (Own.get (by assumption) 0 rfl) (Own.toBut (by assumption))
          exact ⟨_, _, _, rfl, by omega, by omega, by omega, Int.ediv_nonneg (by omega) (by omega)⟩
        · walk_at "g"
          refine h _ _ _ (Int.emod_nonneg _ (by omega)) (Int.emod_lt_of_pos _ hm0) ?_ (Own.get (by assumption) 0 rfl) (Own.toBut (by assumption))
          exact ⟨_, _, _, rfl, by omega, by omega, by omega, hc0⟩

/-! ### law_early_x -/
-- @NEEDS Trick_init Trick_init_x Sum_init_x figures_x done_x tells_x number_x
theorem made_same {H : Hp} {x dx C : Addr} (hx : H x = none) (hdx : H dx = none) (ne : dx ≠ x) : Same H (upd (upd H dx (.own x)) x (.ins C dx [])) :=
  (Own.new (o := .ins C dx []) (Own.new (o := .own x) (Own.refl H) hdx) (by rw [upd_ne (Ne.symm ne)]; exact hx)).st
/-- the class that a call ends with -/
def clsK (Z : Adr) (kind : Int) : Addr := match kind with
  | 0 => Z.c_BadBase
  | 1 => Z.c_BadTake
  | 2 => Z.c_BadTimes
  | 3 => Z.c_BadTrick
  | 4 => Z.c_BadNumber
  | 5 => Z.c_BadDivisor
  | 6 => Z.c_BadFigures
  | 7 => Z.c_BadWeights
  | 8 => Z.c_BadSum
  | 9 => Z.c_BadRests
  | 10 => Z.c_BadRest
  | 11 => Z.c_BadTricks
  | 12 => Z.c_BadPairs
  | 13 => Z.c_TooWide
  | _ => Z.c_InvalidText
def sp_x_law_early (K : Frag) (Z : Adr) : Sp := fun vs H _ E => ∃ (kind : Int) (a : Addr), vs = [.int kind, .ref a] ∧ (0 ≤ kind ∧ kind < 8) ∧ TrickAt Z H a 10 1 (-2) ∧ ∀ d H1, Same H H1 → E (.ref (clsK Z kind)) d H1
theorem okX_law_early (T : Txt K mg Z) : FnOk P w K mg base (L2.CX P w) 6 Z.f_law_early Z.d_law_early p_law_early (sp_x_law_early K Z) := by
  refine T.F_law_early.okX sc_law_early (fun vs H Q E h => ?_) (fun cdv A outer s H vs Q E hr h => ?_)
  · obtain ⟨_, _, rfl, _⟩ := h; rfl
  · obtain ⟨kind, a, rfl, ⟨hk0, hk1⟩, ha, h⟩ := h
    have O := Own.refl H
    refine ⟨_, (pss_one (ps_if (pt_cmpR op_eq (pv 0) pe_int (nomark _)) (pss_one (ps_expr (pe_call (okX_figures T) (hr.mono (by decide)) rfl T.g_figures T.F_figures.kp T.b_figures .nil (passes_call (takes_of rfl rfl rfl rfl) (fun _ _ _ _ h => h)) (pa_cons pe_int (pa_cons pe_int pa_nil))))) (pss_one (ps_if (pt_cmpR op_eq (pv 0) pe_int (nomark _)) (pss_one (ps_expr (pe_make T.M_Trick (okX_Trick_init T) (hr.mono (by decide)) rfl T.g_Trick T.b_Trick_init .nil (passes_call (takes_of rfl rfl rfl rfl) (fun _ _ _ _ h => h)) (pa_cons pe_int (pa_cons pe_int (pa_cons pe_int pa_nil)))))) (pss_one (ps_if (pt_cmpR op_eq (pv 0) pe_int (nomark _)) (pss_one (ps_expr (pe_make T.M_Trick (okX_Trick_init T) (hr.mono (by decide)) rfl T.g_Trick T.b_Trick_init .nil (passes_call (takes_of rfl rfl rfl rfl) (fun _ _ _ _ h => h)) (pa_cons pe_int (pa_cons pe_int (pa_cons pe_int pa_nil)))))) (pss_one (ps_if (pt_cmpR op_eq (pv 0) pe_int (nomark _)) (pss_one (ps_expr (pe_call (okX_done T) (hr.mono (by decide)) rfl T.g_done T.F_done.kp T.b_done .nil (passes_call (takes_of rfl rfl rfl rfl) (fun _ _ _ _ h => h)) (pa_cons pe_int (pa_cons pe_int pa_nil))))) (pss_one (ps_if (pt_cmpR op_eq (pv 0) pe_int (nomark _)) (pss_one (ps_expr (pe_call (okX_done T) (hr.mono (by decide)) rfl T.g_done T.F_done.kp T.b_done .nil (passes_call (takes_of rfl rfl rfl rfl) (fun _ _ _ _ h => h)) (pa_cons (pv 1) (pa_cons pe_non pa_nil))))) (pss_one (ps_if (pt_cmpR op_eq (pv 0) pe_int (nomark _)) (pss_one (ps_expr (pe_call (okX_tells T) (hr.mono (by decide)) rfl T.g_tells T.F_tells.kp T.b_tells .nil (passes_call (takes_of rfl rfl rfl rfl) (fun _ _ _ _ h => h)) (pa_cons (pv 1) (pa_cons pe_int pa_nil))))) (pss_one (ps_if (pt_cmpR op_eq (pv 0) pe_int (nomark _)) (pss_one (ps_expr (pe_call (okX_number T) (hr.mono (by decide)) rfl T.g_number T.F_number.kp T.b_number .nil (passes_call (takes_of rfl rfl rfl rfl) (fun _ _ _ _ h => h)) (pa_cons (pe_tup pa_nil) (pa_cons pe_int pa_nil))))) (pss_one (ps_expr (pe_make T.M_Sum (okX_Sum_init T) (hr.mono (by decide)) rfl T.g_Sum T.b_Sum_init .nil (passes_call (takes_of rfl rfl rfl rfl) (fun _ _ _ _ h => h)) (pa_cons pe_int (pa_cons pe_int (pa_cons (pe_tup pa_nil) (pa_cons (pe_tup pa_nil) pa_nil))))))))))))))))))))), ?_⟩
    rcases (by omega : kind = 0 ∨ kind = 1 ∨ kind = 2 ∨ kind = 3 ∨ kind = 4 ∨ kind = 5 ∨ kind = 6 ∨ kind = 7) with rfl | rfl | rfl | rfl | rfl | rfl | rfl | rfl
    · walk_at "g"
      exact ⟨_, _, rfl, .inr ⟨⟨7, rfl, by omega, by omega⟩, .int (by omega), h _ _ O.st⟩⟩
    · walk_at "g"
      intro x dx hx hdx ne
      exact ⟨_, _, _, _, rfl, .inr (.inl ⟨⟨10, rfl, by omega, by omega⟩, .int (by omega), h _ _ (made_same hx hdx ne)⟩)⟩
    · walk_at "g"
      intro x dx hx hdx ne
      exact ⟨_, _, _, _, rfl, .inr (.inr ⟨⟨10, rfl, by omega, by omega⟩, ⟨1, rfl, by omega, by omega⟩, .int (by omega), h _ _ (made_same hx hdx ne)⟩)⟩
    · walk_at "g"
      exact ⟨_, _, rfl, .inl ⟨.inr ⟨_, rfl⟩, h _ _ O.st⟩⟩
    · walk_at "g"
      exact ⟨_, _, rfl, .inr ⟨⟨a, _, _, _, rfl, ha⟩, .inl .non, fun d hd => h _ _ (Own.new (o := .xd [("n", .non)]) O hd).st⟩⟩
    · walk_at "g"
      exact ⟨_, _, rfl, .inr ⟨⟨a, _, _, _, rfl, ha⟩, .int (by omega), h _ _ O.st⟩⟩
    · walk_at "g"; walk_at "mkT"; intro t H1 ht O
      walk_at "g"
      exact ⟨_, _, rfl, .inr ⟨10, rfl, ⟨by omega, by omega⟩, .inl ⟨.inr ⟨t, [], rfl, O.get 0 rfl, by simp⟩, fun d hd => h _ _ (Own.new (o := .xd [("index", .non)]) O hd).st⟩⟩⟩
    · walk_at "g"; walk_at "mkT"; intro t1 H1 ht1 O
      walk_at "g"; walk_at "mkT"; intro t2 H2 ht2 O
      walk_at "g"
      intro x dx hx hdx ne
      have s := made_same (C := Z.c_Sum) hx hdx ne
      refine ⟨_, _, _, _, _, .at .non, rfl, .inr ⟨10, rfl, ⟨by omega, by omega⟩, .inr ⟨1, rfl, ⟨by omega, by omega⟩, .inr ⟨t1, [], .non, rfl, s _ _ (O.get 1 rfl), by simp, by simp, .inl ⟨.inr ⟨t2, [], rfl, s _ _ (O.get 0 rfl), by simp⟩, rfl⟩, rfl⟩⟩⟩, ?_⟩
      exact fun d H3 s3 hd => h _ _ (Same.trans (Same.trans O.st s) (s3.trans (Own.new (o := .xd [("index", .non)]) (Own.refl H3) hd).st))

/-! ### law_call_x -/
-- @NEEDS Trick_init law_early_x total_x front_states_x front_word_x chained_x fitting_x chain_tells_x read_x need_pairs_x need_tricks_x need_chain_x
def sp_x_law_call (K : Frag) (Z : Adr) : Sp := fun vs H _ E => ∃ (kind : Int), vs = [.int kind] ∧ (0 ≤ kind ∧ kind < 15) ∧ ∀ d H1, Same H H1 → E (.ref (clsK Z kind)) d H1
theorem tricksAt2 {H : Hp} {a x1 x2 : Addr} {y1 y2 : Tr} (h : EAt H a [.ref x1, .ref x2]) (h1 : TrickAt Z H x1 y1.1 y1.2.1 y1.2.2) (h2 : TrickAt Z H x2 y2.1 y2.2.1 y2.2.2) : TricksAt Z H a [y1, y2] := by
  refine ⟨_, h, rfl, fun x hx => ?_, fun i x hi => ?_⟩
  · simp only [List.mem_cons, List.not_mem_nil, or_false] at hx
    rcases hx with rfl | rfl
    · exact h1.1
    · exact h2.1
  · match i, hi with
    | 0, hi => exact ⟨x1, y1, rfl, (Option.some.inj hi).symm, h1⟩
    | 1, hi => exact ⟨x2, y2, rfl, (Option.some.inj hi).symm, h2⟩
    | i + 2, hi => simp at hi
theorem xd_same {H : Hp} {d : Addr} {l : List (Str × V)} (hd : H d = none) : Same H (upd H d (.xd l)) := (Own.new (o := .xd l) (Own.refl H) hd).st
theorem okX_law_call (T : Txt K mg Z) : FnOk P w K mg base (L2.CX P w) 7 Z.f_law_call Z.d_law_call p_law_call (sp_x_law_call K Z) := by
  refine T.F_law_call.okX sc_law_call (fun vs H Q E h => ?_) (fun cdv A outer s H vs Q E hr h => ?_)
  · obtain ⟨_, rfl, _⟩ := h; rfl
  · obtain ⟨kind, rfl, ⟨hk0, hk1⟩, h⟩ := h
    have O := Own.refl H
    refine ⟨_, (pss_cons (ps_set (i := 1) sc_law_call.nd rfl (Or.inl rfl) (pe_make T.M_Trick (ok_Trick_init T) (hr.mono (by decide)) rfl T.g_Trick T.b_Trick_init .nil pass0 (pa_cons pe_int (pa_cons pe_int (pa_cons (pe_un un_neg pe_int) pa_nil)))))
    (pss_one (ps_if (pt_cmpR op_lt (pv 0) pe_int (nomark _)) (pss_one (ps_expr (pe_call (okX_law_early T) (hr.mono (by decide)) rfl T.g_law_early T.F_law_early.kp T.b_law_early .nil (passes_call (takes_of rfl rfl rfl rfl) (fun _ _ _ _ h => h)) (pa_cons (pv 0) (pa_cons (pv 1) pa_nil))))) (pss_one (ps_if (pt_cmpR op_eq (pv 0) pe_int (nomark _)) (pss_one (ps_expr (pe_call (okX_total T) (hr.mono (by decide)) rfl T.g_total T.F_total.kp T.b_total .nil (passes_call (takes_of rfl rfl rfl rfl) (fun _ _ _ _ h => h)) (pa_cons pe_int (pa_cons pe_int pa_nil))))) (pss_one (ps_if (pt_cmpR op_eq (pv 0) pe_int (nomark _)) (pss_one (ps_expr (pe_call (okX_front_states T) (hr.mono (by decide)) rfl T.g_front_states T.F_front_states.kp T.b_front_states .nil (passes_call (takes_of rfl rfl rfl rfl) (fun _ _ _ _ h => h)) (pa_cons pe_int (pa_cons (pe_tup pa_nil) pa_nil))))) (pss_one (ps_if (pt_cmpR op_eq (pv 0) pe_int (nomark _)) (pss_one (ps_expr (pe_call (okX_front_word T) (hr.mono (by decide)) rfl T.g_front_word T.F_front_word.kp T.b_front_word .nil (passes_call (takes_of rfl rfl rfl rfl) (fun _ _ _ _ h => h)) (pa_cons pe_int (pa_cons (pe_tup (pa_cons pe_int (pa_cons pe_int pa_nil))) (pa_cons pe_int (pa_cons pe_int pa_nil))))))) (pss_one (ps_if (pt_cmpR op_eq (pv 0) pe_int (nomark _)) (pss_one (ps_expr (pe_call (okX_chained T) (hr.mono (by decide)) rfl T.g_chained T.F_chained.kp T.b_chained .nil (passes_call (takes_of rfl rfl rfl rfl) (fun _ _ _ _ h => h)) (pa_cons (pe_lst pa_nil) (pa_cons pe_int pa_nil))))) (pss_one (ps_if (pt_cmpR op_eq (pv 0) pe_int (nomark _)) (pss_one (ps_expr (pe_call (okX_fitting T) (hr.mono (by decide)) rfl T.g_fitting T.F_fitting.kp T.b_fitting .nil (passes_call (takes_of rfl rfl rfl rfl) (fun _ _ _ _ h => h)) (pa_cons (pe_lst pa_nil) pa_nil)))) (pss_one (ps_if (pt_cmpR op_eq (pv 0) pe_int (nomark _)) (pss_one (ps_expr (pe_call (okX_chain_tells T) (hr.mono (by decide)) rfl T.g_chain_tells T.F_chain_tells.kp T.b_chain_tells .nil (passes_call (takes_of rfl rfl rfl rfl) (fun _ _ _ _ h => h)) (pa_cons (pe_lst (pa_cons (pe_make T.M_Trick (ok_Trick_init T) (hr.mono (by decide)) rfl T.g_Trick T.b_Trick_init .nil pass0 (pa_cons pe_int (pa_cons pe_int (pa_cons pe_int pa_nil)))) (pa_cons (pv 1) pa_nil))) (pa_cons pe_int pa_nil))))) (pss_one (ps_expr (pe_call (okX_read T) (hr.mono (by decide)) rfl T.g_read T.F_read.kp T.b_read .nil (passes_call (takes_of rfl rfl rfl rfl) (fun _ _ _ _ h => h)) (pa_cons pe_str pa_nil))))))))))))))))))), ?_⟩
    walk_at "g"
    refine use_Trick O (b := 10) (k := 1) (t := -2) ⟨by omega, by omega, by omega, by omega⟩ (fun a B H1 ha0 sB O ha => ?_)
    have sH : Same H H1 := sB.trans O.st
    have ha := ha.same O.st
    replace O := Own.refl H1
    walk_at "g"
    refine a_it2 (fun c => ?_) (fun c => ?_)
    · walk_at "g"
      exact ⟨kind, a, rfl, ⟨hk0, c⟩, ha, fun d H2 s => h _ _ (sH.trans s)⟩
    · rcases (by omega : kind = 8 ∨ kind = 9 ∨ kind = 10 ∨ kind = 11 ∨ kind = 12 ∨ kind = 13 ∨ kind = 14) with rfl | rfl | rfl | rfl | rfl | rfl | rfl
      · walk_at "g"
        exact ⟨_, _, rfl, .inr ⟨_, rfl⟩, h _ _ sH⟩
      · walk_at "g"; walk_at "mkT"; intro t H2 ht O
        walk_at "g"
        exact ⟨_, _, rfl, .inr ⟨⟨10, rfl, by omega, by omega⟩, .non, .inl ⟨.inr ⟨t, [], rfl, O.get 0 rfl, by simp⟩, rfl⟩, fun d H3 s hd => h _ _ (sH.trans (Same.trans O.st (s.trans (xd_same hd))))⟩⟩
      · walk_at "g"; walk_at "mkT"; intro t H2 ht O
        walk_at "g"
        exact ⟨_, t, [0, 1], _, _, rfl, ⟨10, rfl, by omega, by omega⟩, O.get 0 rfl, by simp, by simp, by simp, .inr ⟨⟨0, rfl, by simp, by simp⟩, .int (by simp)⟩, fun H3 s => h _ _ (sH.trans (Same.trans O.st s))⟩
      · walk_at "g"; walk_at "mkL"; intro t H2 ht O
        walk_at "g"
        exact ⟨_, _, rfl, .inl ⟨.non, .inl ⟨.inr ⟨t, [], rfl, .inl (O.get 0 rfl), by simp⟩, rfl⟩, fun d H3 s hd => h _ _ (sH.trans (Same.trans O.st (s.trans (xd_same hd))))⟩⟩
      · walk_at "g"; walk_at "mkL"; intro t H2 ht O
        walk_at "g"
        exact ⟨_, rfl, .inl ⟨.inr ⟨t, [], rfl, .inl (O.get 0 rfl), by simp⟩, fun d H3 s hd => h _ _ (sH.trans (Same.trans O.st (s.trans (xd_same hd))))⟩⟩
      · walk_at "g"
        refine use_Trick O (b := 16) (k := 2) (t := 1) ⟨by omega, by omega, by omega, by omega⟩ (fun x B2 H2 hx s2 O hb => ?_)
        walk_at "g"; walk_at "mkL"; intro p H3 hp O
        walk_at "g"
        have sx := s2.trans O.st
        refine ⟨_, _, .wide, rfl, .inr ⟨p, [(16, 2, 1), (10, 1, -2)], rfl, tricksAt2 (.inl (O.get 0 rfl)) (hb.same O.st) (ha.same sx), ⟨by simp, by simp⟩, .inr ⟨⟨3, rfl, by omega, by omega⟩, by decide, by decide, rfl⟩⟩, ?_⟩
        exact fun H4 s d hd => h _ _ (sH.trans (sx.trans (s.trans (xd_same hd))))
      · walk_at "g"
        exact ⟨rfl, fun d H2 s hd => h _ _ (sH.trans (s.trans (xd_same hd)))⟩

/-! ### law_first -/
-- @NEEDS law_call_x
def resKF (kind : Int) : Int := if kind < 8 then kind else 8
def sp_law_first : Sp := fun vs H Q _ => ∃ (kind : Int), vs = [.int kind] ∧ (0 ≤ kind ∧ kind < 15) ∧ ∀ H1, Same H H1 → Q (.int (resKF kind)) H1
theorem use_law_first {B H : Hp} {Lw : List (Addr × HO)} {kind : Int} {Q : VK} {E : XK} (O : Own B Lw H) (hk : 0 ≤ kind ∧ kind < 15) (h : ∀ H1, Own B Lw H1 → Q (.int (resKF kind)) H1) : sp_law_first ([.int kind] ++ []) H Q E := ⟨kind, rfl, hk, fun H1 s => h H1 (O.same s)⟩
theorem ok_law_first (T : Txt K mg Z) : FnOk P w K mg base CX0 8 Z.f_law_first Z.d_law_first p_law_first sp_law_first := by
  refine T.F_law_first.ok sc_law_first (fun vs H Q E h => ?_) (fun cdv A outer s H vs Q E hr h => ?_)
  · obtain ⟨_, rfl, _⟩ := h; rfl
  · obtain ⟨kind, rfl, ⟨hk0, hk1⟩, h⟩ := h
    have O := Own.refl H
    refine ⟨_, (pss_cons (ps_set (i := 1) sc_law_first.nd rfl (Or.inl rfl) (pe_lst pa_nil))
    (pss_cons (ps_try_mix rfl rfl sc_law_first.nd takes0 (fun W pn xe tk po => (pss_one (ps_expr (pe_callS (okX_law_call T) (hr.mono (by decide)) rfl T.g_law_call T.F_law_call.kp T.b_law_call (fun σ => passAt tk σ) (pa_cons (pv 0) pa_nil)))))
    (HdsX.cons ⟨rfl, by decide, Or.inl T.g_BadBase⟩
      (fun a oe cls d pn hz hf => (pss_one (ps_set (i := 1) sc_law_first.nd rfl (Or.inl rfl) pe_int))) (HdsX.cons ⟨rfl, by decide, Or.inl T.g_BadTake⟩
      (fun a oe cls d pn hz hf => (pss_one (ps_set (i := 1) sc_law_first.nd rfl (Or.inl rfl) pe_int))) (HdsX.cons ⟨rfl, by decide, Or.inl T.g_BadTimes⟩
      (fun a oe cls d pn hz hf => (pss_one (ps_set (i := 1) sc_law_first.nd rfl (Or.inl rfl) pe_int))) (HdsX.cons ⟨rfl, by decide, Or.inl T.g_BadTrick⟩
      (fun a oe cls d pn hz hf => (pss_one (ps_set (i := 1) sc_law_first.nd rfl (Or.inl rfl) pe_int))) (HdsX.cons ⟨rfl, by decide, Or.inl T.g_BadNumber⟩
      (fun a oe cls d pn hz hf => (pss_one (ps_set (i := 1) sc_law_first.nd rfl (Or.inl rfl) pe_int))) (HdsX.cons ⟨rfl, by decide, Or.inl T.g_BadDivisor⟩
      (fun a oe cls d pn hz hf => (pss_one (ps_set (i := 1) sc_law_first.nd rfl (Or.inl rfl) pe_int))) (HdsX.cons ⟨rfl, by decide, Or.inl T.g_BadFigures⟩
      (fun a oe cls d pn hz hf => (pss_one (ps_set (i := 1) sc_law_first.nd rfl (Or.inl rfl) pe_int))) (HdsX.cons ⟨rfl, by decide, Or.inl T.g_BadWeights⟩
      (fun a oe cls d pn hz hf => (pss_one (ps_set (i := 1) sc_law_first.nd rfl (Or.inl rfl) pe_int))) (HdsX.cons ⟨rfl, by decide, Or.inl T.g_TrickError⟩
      (fun a oe cls d pn hz hf => (pss_one (ps_set (i := 1) sc_law_first.nd rfl (Or.inl rfl) pe_int))) HdsX.nil))))))))))
    (pss_one (ps_ret (pv 1))))), ?_⟩
    walk_at "g"; walk_at "mkL"; intro p H1 hp O
    walk_at "g"
    refine ⟨kind, rfl, ⟨hk0, hk1⟩, fun d H2 s => ?_⟩
    replace O := O.same s
    show wEx _ _ _ _ _ _ _ _
    rcases (by omega : kind = 0 ∨ kind = 1 ∨ kind = 2 ∨ kind = 3 ∨ kind = 4 ∨ kind = 5 ∨ kind = 6 ∨ kind = 7 ∨ kind = 8 ∨ kind = 9 ∨ kind = 10 ∨ kind = 11 ∨ kind = 12 ∨ kind = 13 ∨ kind = 14) with rfl | rfl | rfl | rfl | rfl | rfl | rfl | rfl | rfl | rfl | rfl | rfl | rfl | rfl | rfl
    · refine a_exYes T.em_BadBase_BadBase (fun ea hea => ?_)
      walk_at "g"
      exact h _ O.st
    · refine a_exNo T.em_BadTake_BadBase (a_exYes T.em_BadTake_BadTake (fun ea hea => ?_))
      walk_at "g"
      exact h _ O.st
    · refine a_exNo T.em_BadTimes_BadBase (a_exNo T.em_BadTimes_BadTake (a_exYes T.em_BadTimes_BadTimes (fun ea hea => ?_)))
      walk_at "g"
      exact h _ O.st
    · refine a_exNo T.em_BadTrick_BadBase (a_exNo T.em_BadTrick_BadTake (a_exNo T.em_BadTrick_BadTimes (a_exYes T.em_BadTrick_BadTrick (fun ea hea => ?_))))
      walk_at "g"
      exact h _ O.st
    · refine a_exNo T.em_BadNumber_BadBase (a_exNo T.em_BadNumber_BadTake (a_exNo T.em_BadNumber_BadTimes (a_exNo T.em_BadNumber_BadTrick (a_exYes T.em_BadNumber_BadNumber (fun ea hea => ?_)))))
      walk_at "g"
      exact h _ O.st
    · refine a_exNo T.em_BadDivisor_BadBase (a_exNo T.em_BadDivisor_BadTake (a_exNo T.em_BadDivisor_BadTimes (a_exNo T.em_BadDivisor_BadTrick (a_exNo T.em_BadDivisor_BadNumber (a_exYes T.em_BadDivisor_BadDivisor (fun ea hea => ?_))))))
      walk_at "g"
      exact h _ O.st
    · refine a_exNo T.em_BadFigures_BadBase (a_exNo T.em_BadFigures_BadTake (a_exNo T.em_BadFigures_BadTimes (a_exNo T.em_BadFigures_BadTrick (a_exNo T.em_BadFigures_BadNumber (a_exNo T.em_BadFigures_BadDivisor (a_exYes T.em_BadFigures_BadFigures (fun ea hea => ?_)))))))
      walk_at "g"
      exact h _ O.st
    · refine a_exNo T.em_BadWeights_BadBase (a_exNo T.em_BadWeights_BadTake (a_exNo T.em_BadWeights_BadTimes (a_exNo T.em_BadWeights_BadTrick (a_exNo T.em_BadWeights_BadNumber (a_exNo T.em_BadWeights_BadDivisor (a_exNo T.em_BadWeights_BadFigures (a_exYes T.em_BadWeights_BadWeights (fun ea hea => ?_))))))))
      walk_at "g"
      exact h _ O.st
    · refine a_exNo T.em_BadSum_BadBase (a_exNo T.em_BadSum_BadTake (a_exNo T.em_BadSum_BadTimes (a_exNo T.em_BadSum_BadTrick (a_exNo T.em_BadSum_BadNumber (a_exNo T.em_BadSum_BadDivisor (a_exNo T.em_BadSum_BadFigures (a_exNo T.em_BadSum_BadWeights (a_exYes T.em_BadSum_TrickError (fun ea hea => ?_)))))))))
      walk_at "g"
      exact h _ O.st
    · refine a_exNo T.em_BadRests_BadBase (a_exNo T.em_BadRests_BadTake (a_exNo T.em_BadRests_BadTimes (a_exNo T.em_BadRests_BadTrick (a_exNo T.em_BadRests_BadNumber (a_exNo T.em_BadRests_BadDivisor (a_exNo T.em_BadRests_BadFigures (a_exNo T.em_BadRests_BadWeights (a_exYes T.em_BadRests_TrickError (fun ea hea => ?_)))))))))
      walk_at "g"
      exact h _ O.st
    · refine a_exNo T.em_BadRest_BadBase (a_exNo T.em_BadRest_BadTake (a_exNo T.em_BadRest_BadTimes (a_exNo T.em_BadRest_BadTrick (a_exNo T.em_BadRest_BadNumber (a_exNo T.em_BadRest_BadDivisor (a_exNo T.em_BadRest_BadFigures (a_exNo T.em_BadRest_BadWeights (a_exYes T.em_BadRest_TrickError (fun ea hea => ?_)))))))))
      walk_at "g"
      exact h _ O.st
    · refine a_exNo T.em_BadTricks_BadBase (a_exNo T.em_BadTricks_BadTake (a_exNo T.em_BadTricks_BadTimes (a_exNo T.em_BadTricks_BadTrick (a_exNo T.em_BadTricks_BadNumber (a_exNo T.em_BadTricks_BadDivisor (a_exNo T.em_BadTricks_BadFigures (a_exNo T.em_BadTricks_BadWeights (a_exYes T.em_BadTricks_TrickError (fun ea hea => ?_)))))))))
      walk_at "g"
      exact h _ O.st
    · refine a_exNo T.em_BadPairs_BadBase (a_exNo T.em_BadPairs_BadTake (a_exNo T.em_BadPairs_BadTimes (a_exNo T.em_BadPairs_BadTrick (a_exNo T.em_BadPairs_BadNumber (a_exNo T.em_BadPairs_BadDivisor (a_exNo T.em_BadPairs_BadFigures (a_exNo T.em_BadPairs_BadWeights (a_exYes T.em_BadPairs_TrickError (fun ea hea => ?_)))))))))
      walk_at "g"
      exact h _ O.st
    · refine a_exNo T.em_TooWide_BadBase (a_exNo T.em_TooWide_BadTake (a_exNo T.em_TooWide_BadTimes (a_exNo T.em_TooWide_BadTrick (a_exNo T.em_TooWide_BadNumber (a_exNo T.em_TooWide_BadDivisor (a_exNo T.em_TooWide_BadFigures (a_exNo T.em_TooWide_BadWeights (a_exYes T.em_TooWide_TrickError (fun ea hea => ?_)))))))))
      walk_at "g"
      exact h _ O.st
    · refine a_exNo T.em_InvalidText_BadBase (a_exNo T.em_InvalidText_BadTake (a_exNo T.em_InvalidText_BadTimes (a_exNo T.em_InvalidText_BadTrick (a_exNo T.em_InvalidText_BadNumber (a_exNo T.em_InvalidText_BadDivisor (a_exNo T.em_InvalidText_BadFigures (a_exNo T.em_InvalidText_BadWeights (a_exYes T.em_InvalidText_TrickError (fun ea hea => ?_)))))))))
      walk_at "g"
      exact h _ O.st

/-! ### law_second -/
-- @NEEDS law_call_x
def resKS (kind : Int) : Int := if kind < 8 then 0 else kind
def sp_law_second : Sp := fun vs H Q _ => ∃ (kind : Int), vs = [.int kind] ∧ (0 ≤ kind ∧ kind < 15) ∧ ∀ H1, Same H H1 → Q (.int (resKS kind)) H1
theorem use_law_second {B H : Hp} {Lw : List (Addr × HO)} {kind : Int} {Q : VK} {E : XK} (O : Own B Lw H) (hk : 0 ≤ kind ∧ kind < 15) (h : ∀ H1, Own B Lw H1 → Q (.int (resKS kind)) H1) : sp_law_second ([.int kind] ++ []) H Q E := ⟨kind, rfl, hk, fun H1 s => h H1 (O.same s)⟩
theorem ok_law_second (T : Txt K mg Z) : FnOk P w K mg base CX0 8 Z.f_law_second Z.d_law_second p_law_second sp_law_second := by
  refine T.F_law_second.ok sc_law_second (fun vs H Q E h => ?_) (fun cdv A outer s H vs Q E hr h => ?_)
  · obtain ⟨_, rfl, _⟩ := h; rfl
  · obtain ⟨kind, rfl, ⟨hk0, hk1⟩, h⟩ := h
    have O := Own.refl H
    refine ⟨_, (pss_cons (ps_set (i := 1) sc_law_second.nd rfl (Or.inl rfl) (pe_lst pa_nil))
    (pss_cons (ps_try_mix rfl rfl sc_law_second.nd takes0 (fun W pn xe tk po => (pss_one (ps_expr (pe_callS (okX_law_call T) (hr.mono (by decide)) rfl T.g_law_call T.F_law_call.kp T.b_law_call (fun σ => passAt tk σ) (pa_cons (pv 0) pa_nil)))))
    (HdsX.cons ⟨rfl, by decide, Or.inl T.g_BadSum⟩
      (fun a oe cls d pn hz hf => (pss_one (ps_set (i := 1) sc_law_second.nd rfl (Or.inl rfl) pe_int))) (HdsX.cons ⟨rfl, by decide, Or.inl T.g_BadRests⟩
      (fun a oe cls d pn hz hf => (pss_one (ps_set (i := 1) sc_law_second.nd rfl (Or.inl rfl) pe_int))) (HdsX.cons ⟨rfl, by decide, Or.inl T.g_BadRest⟩
      (fun a oe cls d pn hz hf => (pss_one (ps_set (i := 1) sc_law_second.nd rfl (Or.inl rfl) pe_int))) (HdsX.cons ⟨rfl, by decide, Or.inl T.g_BadTricks⟩
      (fun a oe cls d pn hz hf => (pss_one (ps_set (i := 1) sc_law_second.nd rfl (Or.inl rfl) pe_int))) (HdsX.cons ⟨rfl, by decide, Or.inl T.g_BadPairs⟩
      (fun a oe cls d pn hz hf => (pss_one (ps_set (i := 1) sc_law_second.nd rfl (Or.inl rfl) pe_int))) (HdsX.cons ⟨rfl, by decide, Or.inl T.g_TooWide⟩
      (fun a oe cls d pn hz hf => (pss_one (ps_set (i := 1) sc_law_second.nd rfl (Or.inl rfl) pe_int))) (HdsX.cons ⟨rfl, by decide, Or.inl T.g_InvalidText⟩
      (fun a oe cls d pn hz hf => (pss_one (ps_set (i := 1) sc_law_second.nd rfl (Or.inl rfl) pe_int))) (HdsX.cons ⟨rfl, by decide, Or.inl T.g_TrickError⟩
      (fun a oe cls d pn hz hf => (pss_one (ps_set (i := 1) sc_law_second.nd rfl (Or.inl rfl) pe_int))) HdsX.nil)))))))))
    (pss_one (ps_ret (pv 1))))), ?_⟩
    walk_at "g"; walk_at "mkL"; intro p H1 hp O
    walk_at "g"
    refine ⟨kind, rfl, ⟨hk0, hk1⟩, fun d H2 s => ?_⟩
    replace O := O.same s
    show wEx _ _ _ _ _ _ _ _
    rcases (by omega : kind = 0 ∨ kind = 1 ∨ kind = 2 ∨ kind = 3 ∨ kind = 4 ∨ kind = 5 ∨ kind = 6 ∨ kind = 7 ∨ kind = 8 ∨ kind = 9 ∨ kind = 10 ∨ kind = 11 ∨ kind = 12 ∨ kind = 13 ∨ kind = 14) with rfl | rfl | rfl | rfl | rfl | rfl | rfl | rfl | rfl | rfl | rfl | rfl | rfl | rfl | rfl
    · refine a_exNo T.em_BadBase_BadSum (a_exNo T.em_BadBase_BadRests (a_exNo T.em_BadBase_BadRest (a_exNo T.em_BadBase_BadTricks (a_exNo T.em_BadBase_BadPairs (a_exNo T.em_BadBase_TooWide (a_exNo T.em_BadBase_InvalidText (a_exYes T.em_BadBase_TrickError (fun ea hea => ?_))))))))
      walk_at "g"
      exact h _ O.st
    · refine a_exNo T.em_BadTake_BadSum (a_exNo T.em_BadTake_BadRests (a_exNo T.em_BadTake_BadRest (a_exNo T.em_BadTake_BadTricks (a_exNo T.em_BadTake_BadPairs (a_exNo T.em_BadTake_TooWide (a_exNo T.em_BadTake_InvalidText (a_exYes T.em_BadTake_TrickError (fun ea hea => ?_))))))))
      walk_at "g"
      exact h _ O.st
    · refine a_exNo T.em_BadTimes_BadSum (a_exNo T.em_BadTimes_BadRests (a_exNo T.em_BadTimes_BadRest (a_exNo T.em_BadTimes_BadTricks (a_exNo T.em_BadTimes_BadPairs (a_exNo T.em_BadTimes_TooWide (a_exNo T.em_BadTimes_InvalidText (a_exYes T.em_BadTimes_TrickError (fun ea hea => ?_))))))))
      walk_at "g"
      exact h _ O.st
    · refine a_exNo T.em_BadTrick_BadSum (a_exNo T.em_BadTrick_BadRests (a_exNo T.em_BadTrick_BadRest (a_exNo T.em_BadTrick_BadTricks (a_exNo T.em_BadTrick_BadPairs (a_exNo T.em_BadTrick_TooWide (a_exNo T.em_BadTrick_InvalidText (a_exYes T.em_BadTrick_TrickError (fun ea hea => ?_))))))))
      walk_at "g"
      exact h _ O.st
    · refine a_exNo T.em_BadNumber_BadSum (a_exNo T.em_BadNumber_BadRests (a_exNo T.em_BadNumber_BadRest (a_exNo T.em_BadNumber_BadTricks (a_exNo T.em_BadNumber_BadPairs (a_exNo T.em_BadNumber_TooWide (a_exNo T.em_BadNumber_InvalidText (a_exYes T.em_BadNumber_TrickError (fun ea hea => ?_))))))))
      walk_at "g"
      exact h _ O.st
    · refine a_exNo T.em_BadDivisor_BadSum (a_exNo T.em_BadDivisor_BadRests (a_exNo T.em_BadDivisor_BadRest (a_exNo T.em_BadDivisor_BadTricks (a_exNo T.em_BadDivisor_BadPairs (a_exNo T.em_BadDivisor_TooWide (a_exNo T.em_BadDivisor_InvalidText (a_exYes T.em_BadDivisor_TrickError (fun ea hea => ?_))))))))
      walk_at "g"
      exact h _ O.st
    · refine a_exNo T.em_BadFigures_BadSum (a_exNo T.em_BadFigures_BadRests (a_exNo T.em_BadFigures_BadRest (a_exNo T.em_BadFigures_BadTricks (a_exNo T.em_BadFigures_BadPairs (a_exNo T.em_BadFigures_TooWide (a_exNo T.em_BadFigures_InvalidText (a_exYes T.em_BadFigures_TrickError (fun ea hea => ?_))))))))
      walk_at "g"
      exact h _ O.st
    · refine a_exNo T.em_BadWeights_BadSum (a_exNo T.em_BadWeights_BadRests (a_exNo T.em_BadWeights_BadRest (a_exNo T.em_BadWeights_BadTricks (a_exNo T.em_BadWeights_BadPairs (a_exNo T.em_BadWeights_TooWide (a_exNo T.em_BadWeights_InvalidText (a_exYes T.em_BadWeights_TrickError (fun ea hea => ?_))))))))
      walk_at "g"
      exact h _ O.st
    · refine a_exYes T.em_BadSum_BadSum (fun ea hea => ?_)
      walk_at "g"
      exact h _ O.st
    · refine a_exNo T.em_BadRests_BadSum (a_exYes T.em_BadRests_BadRests (fun ea hea => ?_))
      walk_at "g"
      exact h _ O.st
    · refine a_exNo T.em_BadRest_BadSum (a_exNo T.em_BadRest_BadRests (a_exYes T.em_BadRest_BadRest (fun ea hea => ?_)))
      walk_at "g"
      exact h _ O.st
    · refine a_exNo T.em_BadTricks_BadSum (a_exNo T.em_BadTricks_BadRests (a_exNo T.em_BadTricks_BadRest (a_exYes T.em_BadTricks_BadTricks (fun ea hea => ?_))))
      walk_at "g"
      exact h _ O.st
    · refine a_exNo T.em_BadPairs_BadSum (a_exNo T.em_BadPairs_BadRests (a_exNo T.em_BadPairs_BadRest (a_exNo T.em_BadPairs_BadTricks (a_exYes T.em_BadPairs_BadPairs (fun ea hea => ?_)))))
      walk_at "g"
      exact h _ O.st
    · refine a_exNo T.em_TooWide_BadSum (a_exNo T.em_TooWide_BadRests (a_exNo T.em_TooWide_BadRest (a_exNo T.em_TooWide_BadTricks (a_exNo T.em_TooWide_BadPairs (a_exYes T.em_TooWide_TooWide (fun ea hea => ?_))))))
      walk_at "g"
      exact h _ O.st
    · refine a_exNo T.em_InvalidText_BadSum (a_exNo T.em_InvalidText_BadRests (a_exNo T.em_InvalidText_BadRest (a_exNo T.em_InvalidText_BadTricks (a_exNo T.em_InvalidText_BadPairs (a_exNo T.em_InvalidText_TooWide (a_exYes T.em_InvalidText_InvalidText (fun ea hea => ?_)))))))
      walk_at "g"
      exact h _ O.st

/-! ### law -/
-- @NEEDS law_first law_second law_taken
def sp_law (K : Frag) : Sp := fun vs H Q _ => ∃ (a : Addr) (ns : List Int), vs = [.ref a] ∧ SqL K H a (ns.map V.int) ∧ ns.length ≤ 63 ∧ ∀ H', Q (.bl true) H'
theorem ok_law (T : Txt K mg Z) : FnOk P w K mg base CX0 9 Z.f_law Z.d_law p_law (sp_law K) := by
  refine T.F_law.ok sc_law (fun vs H Q E h => ?_) (fun cdv A outer s H vs Q E hr h => ?_)
  · obtain ⟨_, _, rfl, _⟩ := h; rfl
  · obtain ⟨a, ns, rfl, hS, hlen, h⟩ := h
    have O := Own.refl H
    refine ⟨_, (pss_cons (ps_set (i := 1) sc_law.nd rfl (Or.inl rfl) (pe_lst (pa_cons (pv 0) (pa_cons pe_int (pa_cons pe_int (pa_cons pe_int pa_nil))))))
    (pss_cons (ps_for PassesOwn.never rfl (pi_range1 rfl T.n_range (pa_cons pe_int pa_nil)) (pg_name (i := 2) sc_law.nd rfl (Or.inl rfl))
    (pss_cons (ps_set (i := 3) sc_law.nd rfl (Or.inl rfl) (pe_call (ok_law_taken T) (hr.mono (by decide)) rfl T.g_law_taken T.F_law_taken.kp T.b_law_taken .nil pass0 (pa_cons (pv 1) (pa_cons pe_int pa_nil))))
    (pss_one (ps_if (PW.pt (pw_or (pt_cmpR op_ne (pe_call (ok_law_first T) (hr.mono (by decide)) rfl T.g_law_first T.F_law_first.kp T.b_law_first .nil pass0 (pa_cons (pv 3) pa_nil)) (pe_callB (call_min2 rfl) (by rfl) T.n_min boot_min (pa_cons pe_int (pa_cons (pv 3) pa_nil))) (nomark _)) (pw_or1 (pt_cmpR op_ne (pe_call (ok_law_second T) (hr.mono (by decide)) rfl T.g_law_second T.F_law_second.kp T.b_law_second .nil pass0 (pa_cons (pv 3) pa_nil)) (pe_ifExp (pt_cmpR op_gt (pv 3) pe_int (nomark _)) (pv 3) pe_int) (nomark _))))) (pss_one (ps_ret pe_bl)) pss_nil))))
    (pss_one (ps_ret pe_bl)))), ?_⟩
    walk_at "g"; walk_at "mkL"; intro row H1 hrow O
    have ok : RowOk a (.lst [.ref a, .int 0, .int 142, .int 0]) := ⟨0, 142, 0, rfl, by decide, by decide, by decide, by decide⟩
    walk_at "g"
    refine for_range (fun i σ H' => ∃ (o : HO) (v2 v3 : Option V), RowOk a o ∧ σ = [some (.ref a), some (.ref row), v2, v3] ∧ Own H [(row, o)] H') ⟨_, _, _, ok, rfl, O⟩ ?_ ?_
    · clear O ok
      rintro i σ H' hi ⟨o, v2, v3, ok, rfl, O⟩
      walk_at "g"
      refine use_law_taken O 0 rfl ok hS (by omega) (fun kind o H2 hk0 hk1 ok O => ?_)
      walk_at "g"
      refine use_law_first O ⟨hk0, hk1⟩ (fun H3 O => ?_)
      walk_at "g"
      refine ⟨_, _, rfl, ?_⟩
      walk_at "g"
      rw [show (decide (resKF kind = if kind < 8 then kind else 8)) = true from decide_eq_true rfl]
      walk_at "g"
      refine use_law_second O ⟨hk0, hk1⟩ (fun H4 O => ?_)
      walk_at "g"
      have e2 : resKS kind = if 7 < kind then kind else 0 := by
        unfold resKS
        rcases (by omega : kind < 8 ∨ 7 < kind) with c | c
        · rw [if_pos c, if_neg (by omega)]
        · rw [if_neg (by omega), if_pos c]
      rcases (by omega : 7 < kind ∨ ¬ 7 < kind) with c | c
      · rw [if_pos (decide_eq_true c)]
        rw [if_pos c] at e2
        walk_at "g"
        exact ⟨o, _, _, ok, rfl, O⟩
      · rw [if_neg (by rw [decide_eq_false c]; decide)]
        rw [if_neg c] at e2
        walk_at "g"
        exact ⟨o, _, _, ok, rfl, O⟩
    · clear O ok
      rintro σ H' ⟨o, v2, v3, ok, rfl, O⟩
      walk_at "g"
      exact h _

end
theorem all_mk {l : PySem.W.OpenLaw} {w : World} {K : Frag} {h : Heap} {mg : Str → Option Value} {fa f0 f1 f2 f3 f4 f5 f6 f7 f8 f9 f10 f11 f12 f13 f14 f15 f16 f17 f18 f19 f20 f21 f22 f23 f24 f25 f26 f27 f28 f29 f30 f31 f32 f33 f34 f35 f36 f37 f38 f39 f40 f41 f42 f43 f44 f45 f46 f47 f48 CTrick CSum CTrickError CBadBase CBadTake CBadTimes CBadTrick CBadNumber CBadDivisor CBadFigures CBadWeights CBadSum CBadRests CBadRest CBadTricks CBadPairs CTooWide CInvalidText : Addr} (X : K.In h) (G : h.Ns mainGlobals mg) (hfa : mg "law" = some (.ref fa))
    {od0 an0 : Option Addr} {sl0 : Array (Option Value)} {oc0 kV0 dc0 pm0 cd0 ct0 : Value}
    {od1 an1 : Option Addr} {sl1 : Array (Option Value)} {oc1 kV1 dc1 pm1 cd1 ct1 : Value}
    {od2 an2 : Option Addr} {sl2 : Array (Option Value)} {oc2 kV2 dc2 pm2 cd2 ct2 : Value}
    {od3 an3 : Option Addr} {sl3 : Array (Option Value)} {oc3 kV3 dc3 pm3 cd3 ct3 : Value}
    {od4 an4 : Option Addr} {sl4 : Array (Option Value)} {oc4 kV4 dc4 pm4 cd4 ct4 : Value}
    {od5 an5 : Option Addr} {sl5 : Array (Option Value)} {oc5 kV5 dc5 pm5 cd5 ct5 : Value}
    {od6 an6 : Option Addr} {sl6 : Array (Option Value)} {oc6 kV6 dc6 pm6 cd6 ct6 : Value}
    {od7 an7 : Option Addr} {sl7 : Array (Option Value)} {oc7 kV7 dc7 pm7 cd7 ct7 : Value}
    {od8 an8 : Option Addr} {sl8 : Array (Option Value)} {oc8 kV8 dc8 pm8 cd8 ct8 : Value}
    {od9 an9 : Option Addr} {sl9 : Array (Option Value)} {oc9 kV9 dc9 pm9 cd9 ct9 : Value}
    {od10 an10 : Option Addr} {sl10 : Array (Option Value)} {oc10 kV10 dc10 pm10 cd10 ct10 : Value}
    {od11 an11 : Option Addr} {sl11 : Array (Option Value)} {oc11 kV11 dc11 pm11 cd11 ct11 : Value}
    {od12 an12 : Option Addr} {sl12 : Array (Option Value)} {oc12 kV12 dc12 pm12 cd12 ct12 : Value}
    {od13 an13 : Option Addr} {sl13 : Array (Option Value)} {oc13 kV13 dc13 pm13 cd13 ct13 : Value}
    {od14 an14 : Option Addr} {sl14 : Array (Option Value)} {oc14 kV14 dc14 pm14 cd14 ct14 : Value}
    {od15 an15 : Option Addr} {sl15 : Array (Option Value)} {oc15 kV15 dc15 pm15 cd15 ct15 : Value}
    {od16 an16 : Option Addr} {sl16 : Array (Option Value)} {oc16 kV16 dc16 pm16 cd16 ct16 : Value}
    {od17 an17 : Option Addr} {sl17 : Array (Option Value)} {oc17 kV17 dc17 pm17 cd17 ct17 : Value}
    {od18 an18 : Option Addr} {sl18 : Array (Option Value)} {oc18 kV18 dc18 pm18 cd18 ct18 : Value}
    {od19 an19 : Option Addr} {sl19 : Array (Option Value)} {oc19 kV19 dc19 pm19 cd19 ct19 : Value}
    {od20 an20 : Option Addr} {sl20 : Array (Option Value)} {oc20 kV20 dc20 pm20 cd20 ct20 : Value}
    {od21 an21 : Option Addr} {sl21 : Array (Option Value)} {oc21 kV21 dc21 pm21 cd21 ct21 : Value}
    {od22 an22 : Option Addr} {sl22 : Array (Option Value)} {oc22 kV22 dc22 pm22 cd22 ct22 : Value}
    {od23 an23 : Option Addr} {sl23 : Array (Option Value)} {oc23 kV23 dc23 pm23 cd23 ct23 : Value}
    {od24 an24 : Option Addr} {sl24 : Array (Option Value)} {oc24 kV24 dc24 pm24 cd24 ct24 : Value}
    {od25 an25 : Option Addr} {sl25 : Array (Option Value)} {oc25 kV25 dc25 pm25 cd25 ct25 : Value}
    {od26 an26 : Option Addr} {sl26 : Array (Option Value)} {oc26 kV26 dc26 pm26 cd26 ct26 : Value}
    {od27 an27 : Option Addr} {sl27 : Array (Option Value)} {oc27 kV27 dc27 pm27 cd27 ct27 : Value}
    {od28 an28 : Option Addr} {sl28 : Array (Option Value)} {oc28 kV28 dc28 pm28 cd28 ct28 : Value}
    {od29 an29 : Option Addr} {sl29 : Array (Option Value)} {oc29 kV29 dc29 pm29 cd29 ct29 : Value}
    {od30 an30 : Option Addr} {sl30 : Array (Option Value)} {oc30 kV30 dc30 pm30 cd30 ct30 : Value}
    {od31 an31 : Option Addr} {sl31 : Array (Option Value)} {oc31 kV31 dc31 pm31 cd31 ct31 : Value}
    {od32 an32 : Option Addr} {sl32 : Array (Option Value)} {oc32 kV32 dc32 pm32 cd32 ct32 : Value}
    {od33 an33 : Option Addr} {sl33 : Array (Option Value)} {oc33 kV33 dc33 pm33 cd33 ct33 : Value}
    {od34 an34 : Option Addr} {sl34 : Array (Option Value)} {oc34 kV34 dc34 pm34 cd34 ct34 : Value}
    {od35 an35 : Option Addr} {sl35 : Array (Option Value)} {oc35 kV35 dc35 pm35 cd35 ct35 : Value}
    {od36 an36 : Option Addr} {sl36 : Array (Option Value)} {oc36 kV36 dc36 pm36 cd36 ct36 : Value}
    {od37 an37 : Option Addr} {sl37 : Array (Option Value)} {oc37 kV37 dc37 pm37 cd37 ct37 : Value}
    {od38 an38 : Option Addr} {sl38 : Array (Option Value)} {oc38 kV38 dc38 pm38 cd38 ct38 : Value}
    {od39 an39 : Option Addr} {sl39 : Array (Option Value)} {oc39 kV39 dc39 pm39 cd39 ct39 : Value}
    {od40 an40 : Option Addr} {sl40 : Array (Option Value)} {oc40 kV40 dc40 pm40 cd40 ct40 : Value}
    {od41 an41 : Option Addr} {sl41 : Array (Option Value)} {oc41 kV41 dc41 pm41 cd41 ct41 : Value}
    {od42 an42 : Option Addr} {sl42 : Array (Option Value)} {oc42 kV42 dc42 pm42 cd42 ct42 : Value}
    {od43 an43 : Option Addr} {sl43 : Array (Option Value)} {oc43 kV43 dc43 pm43 cd43 ct43 : Value}
    {od44 an44 : Option Addr} {sl44 : Array (Option Value)} {oc44 kV44 dc44 pm44 cd44 ct44 : Value}
    {od45 an45 : Option Addr} {sl45 : Array (Option Value)} {oc45 kV45 dc45 pm45 cd45 ct45 : Value}
    {od46 an46 : Option Addr} {sl46 : Array (Option Value)} {oc46 kV46 dc46 pm46 cd46 ct46 : Value}
    {od47 an47 : Option Addr} {sl47 : Array (Option Value)} {oc47 kV47 dc47 pm47 cd47 ct47 : Value}
    {od48 an48 : Option Addr} {sl48 : Array (Option Value)} {oc48 kV48 dc48 pm48 cd48 ct48 : Value}
    {xnBadBase xqBadBase : Str} {xNBadBase : Addr} {xbBadBase : List Value} {xsBadBase : List Str} {xuBadBase : List Value} {xaBadBase : Bool} {xcBadBase : Option Bool} {xdBadBase : Option Addr} {x0BadBase x1BadBase x2BadBase x3BadBase x5BadBase : Option Value}
    {xnBadTake xqBadTake : Str} {xNBadTake : Addr} {xbBadTake : List Value} {xsBadTake : List Str} {xuBadTake : List Value} {xaBadTake : Bool} {xcBadTake : Option Bool} {xdBadTake : Option Addr} {x0BadTake x1BadTake x2BadTake x3BadTake x5BadTake : Option Value}
    {xnBadTimes xqBadTimes : Str} {xNBadTimes : Addr} {xbBadTimes : List Value} {xsBadTimes : List Str} {xuBadTimes : List Value} {xaBadTimes : Bool} {xcBadTimes : Option Bool} {xdBadTimes : Option Addr} {x0BadTimes x1BadTimes x2BadTimes x3BadTimes x5BadTimes : Option Value}
    {xnBadTrick xqBadTrick : Str} {xNBadTrick : Addr} {xbBadTrick : List Value} {xsBadTrick : List Str} {xuBadTrick : List Value} {xaBadTrick : Bool} {xcBadTrick : Option Bool} {xdBadTrick : Option Addr} {x0BadTrick x1BadTrick x2BadTrick x3BadTrick x5BadTrick : Option Value}
    {xnBadNumber xqBadNumber : Str} {xNBadNumber : Addr} {xbBadNumber : List Value} {xsBadNumber : List Str} {xuBadNumber : List Value} {xaBadNumber : Bool} {xcBadNumber : Option Bool} {xdBadNumber : Option Addr} {x0BadNumber x1BadNumber x2BadNumber x3BadNumber x5BadNumber : Option Value}
    {xnBadDivisor xqBadDivisor : Str} {xNBadDivisor : Addr} {xbBadDivisor : List Value} {xsBadDivisor : List Str} {xuBadDivisor : List Value} {xaBadDivisor : Bool} {xcBadDivisor : Option Bool} {xdBadDivisor : Option Addr} {x0BadDivisor x1BadDivisor x2BadDivisor x3BadDivisor x5BadDivisor : Option Value}
    {xnBadFigures xqBadFigures : Str} {xNBadFigures : Addr} {xbBadFigures : List Value} {xsBadFigures : List Str} {xuBadFigures : List Value} {xaBadFigures : Bool} {xcBadFigures : Option Bool} {xdBadFigures : Option Addr} {x0BadFigures x1BadFigures x2BadFigures x3BadFigures x5BadFigures : Option Value}
    {xnBadWeights xqBadWeights : Str} {xNBadWeights : Addr} {xbBadWeights : List Value} {xsBadWeights : List Str} {xuBadWeights : List Value} {xaBadWeights : Bool} {xcBadWeights : Option Bool} {xdBadWeights : Option Addr} {x0BadWeights x1BadWeights x2BadWeights x3BadWeights x5BadWeights : Option Value}
    {xnBadSum xqBadSum : Str} {xNBadSum : Addr} {xbBadSum : List Value} {xsBadSum : List Str} {xuBadSum : List Value} {xaBadSum : Bool} {xcBadSum : Option Bool} {xdBadSum : Option Addr} {x0BadSum x1BadSum x2BadSum x3BadSum x5BadSum : Option Value}
    {xnBadRests xqBadRests : Str} {xNBadRests : Addr} {xbBadRests : List Value} {xsBadRests : List Str} {xuBadRests : List Value} {xaBadRests : Bool} {xcBadRests : Option Bool} {xdBadRests : Option Addr} {x0BadRests x1BadRests x2BadRests x3BadRests x5BadRests : Option Value}
    {xnBadRest xqBadRest : Str} {xNBadRest : Addr} {xbBadRest : List Value} {xsBadRest : List Str} {xuBadRest : List Value} {xaBadRest : Bool} {xcBadRest : Option Bool} {xdBadRest : Option Addr} {x0BadRest x1BadRest x2BadRest x3BadRest x5BadRest : Option Value}
    {xnBadTricks xqBadTricks : Str} {xNBadTricks : Addr} {xbBadTricks : List Value} {xsBadTricks : List Str} {xuBadTricks : List Value} {xaBadTricks : Bool} {xcBadTricks : Option Bool} {xdBadTricks : Option Addr} {x0BadTricks x1BadTricks x2BadTricks x3BadTricks x5BadTricks : Option Value}
    {xnBadPairs xqBadPairs : Str} {xNBadPairs : Addr} {xbBadPairs : List Value} {xsBadPairs : List Str} {xuBadPairs : List Value} {xaBadPairs : Bool} {xcBadPairs : Option Bool} {xdBadPairs : Option Addr} {x0BadPairs x1BadPairs x2BadPairs x3BadPairs x5BadPairs : Option Value}
    {xnTooWide xqTooWide : Str} {xNTooWide : Addr} {xbTooWide : List Value} {xsTooWide : List Str} {xuTooWide : List Value} {xaTooWide : Bool} {xcTooWide : Option Bool} {xdTooWide : Option Addr} {x0TooWide x1TooWide x2TooWide x3TooWide x5TooWide : Option Value}
    {xnInvalidText xqInvalidText : Str} {xNInvalidText : Addr} {xbInvalidText : List Value} {xsInvalidText : List Str} {xuInvalidText : List Value} {xaInvalidText : Bool} {xcInvalidText : Option Bool} {xdInvalidText : Option Addr} {x0InvalidText x1InvalidText x2InvalidText x3InvalidText x5InvalidText : Option Value}
    {tk_LEAST_BASE : Tok}
    {tk_MOST_BASE : Tok}
    {tk_MOST_NUMBER : Tok}
    {tk_MOST_FIGURES : Tok}
    {tk_MOST_DIVISOR : Tok}
    {tk_MOST_TAKE : Tok}
    {tk_MOST_TIMES : Tok}
    {tk_MOST_TRICKS : Tok}
    {tk_MOST_WIDE : Tok}
    {tk_MOST_CHAIN_DIVISOR : Tok}
    {tk_MOST_RESTS : Tok}
    {tk_MOST_WEIGHT : Tok}
    {tk_MOST_WEIGHTS : Tok}
    {tk_MOST_PAIRS : Tok}
    (a0 : PySem.W.findIn K (.ref CBadBase) "__init__" = some (some (.ref f0)))
    (i0 : PySem.W.isFn K (.ref f0) = true)
    (l0 : K.lookup f0 = some ⟨oc0, od0, .func (PySem.W.fnOf "__init__" "BadBase.__init__" (defArgs s_BadBase_init) (defBody s_BadBase_init) (defScope s_BadBase_init) .none kV0 dc0 pm0 an0 cd0 ct0), sl0⟩)
    (c0 : PySem.W.codeIn K cd0 "BadBase.__init__" = true)
    (k0 : PySem.W.keepIn K (.ref f0) = true)
    (a1 : PySem.W.findIn K (.ref CBadTake) "__init__" = some (some (.ref f1)))
    (i1 : PySem.W.isFn K (.ref f1) = true)
    (l1 : K.lookup f1 = some ⟨oc1, od1, .func (PySem.W.fnOf "__init__" "BadTake.__init__" (defArgs s_BadTake_init) (defBody s_BadTake_init) (defScope s_BadTake_init) .none kV1 dc1 pm1 an1 cd1 ct1), sl1⟩)
    (c1 : PySem.W.codeIn K cd1 "BadTake.__init__" = true)
    (k1 : PySem.W.keepIn K (.ref f1) = true)
    (a2 : PySem.W.findIn K (.ref CBadTimes) "__init__" = some (some (.ref f2)))
    (i2 : PySem.W.isFn K (.ref f2) = true)
    (l2 : K.lookup f2 = some ⟨oc2, od2, .func (PySem.W.fnOf "__init__" "BadTimes.__init__" (defArgs s_BadTimes_init) (defBody s_BadTimes_init) (defScope s_BadTimes_init) .none kV2 dc2 pm2 an2 cd2 ct2), sl2⟩)
    (c2 : PySem.W.codeIn K cd2 "BadTimes.__init__" = true)
    (k2 : PySem.W.keepIn K (.ref f2) = true)
    (a3 : PySem.W.findIn K (.ref CBadTrick) "__init__" = some (some (.ref f3)))
    (i3 : PySem.W.isFn K (.ref f3) = true)
    (l3 : K.lookup f3 = some ⟨oc3, od3, .func (PySem.W.fnOf "__init__" "BadTrick.__init__" (defArgs s_BadTrick_init) (defBody s_BadTrick_init) (defScope s_BadTrick_init) .none kV3 dc3 pm3 an3 cd3 ct3), sl3⟩)
    (c3 : PySem.W.codeIn K cd3 "BadTrick.__init__" = true)
    (k3 : PySem.W.keepIn K (.ref f3) = true)
    (a4 : PySem.W.findIn K (.ref CBadNumber) "__init__" = some (some (.ref f4)))
    (i4 : PySem.W.isFn K (.ref f4) = true)
    (l4 : K.lookup f4 = some ⟨oc4, od4, .func (PySem.W.fnOf "__init__" "BadNumber.__init__" (defArgs s_BadNumber_init) (defBody s_BadNumber_init) (defScope s_BadNumber_init) .none kV4 dc4 pm4 an4 cd4 ct4), sl4⟩)
    (c4 : PySem.W.codeIn K cd4 "BadNumber.__init__" = true)
    (k4 : PySem.W.keepIn K (.ref f4) = true)
    (a5 : PySem.W.findIn K (.ref CBadDivisor) "__init__" = some (some (.ref f5)))
    (i5 : PySem.W.isFn K (.ref f5) = true)
    (l5 : K.lookup f5 = some ⟨oc5, od5, .func (PySem.W.fnOf "__init__" "BadDivisor.__init__" (defArgs s_BadDivisor_init) (defBody s_BadDivisor_init) (defScope s_BadDivisor_init) .none kV5 dc5 pm5 an5 cd5 ct5), sl5⟩)
    (c5 : PySem.W.codeIn K cd5 "BadDivisor.__init__" = true)
    (k5 : PySem.W.keepIn K (.ref f5) = true)
    (a6 : PySem.W.findIn K (.ref CBadFigures) "__init__" = some (some (.ref f6)))
    (i6 : PySem.W.isFn K (.ref f6) = true)
    (l6 : K.lookup f6 = some ⟨oc6, od6, .func (PySem.W.fnOf "__init__" "BadFigures.__init__" (defArgs s_BadFigures_init) (defBody s_BadFigures_init) (defScope s_BadFigures_init) .none kV6 dc6 pm6 an6 cd6 ct6), sl6⟩)
    (c6 : PySem.W.codeIn K cd6 "BadFigures.__init__" = true)
    (k6 : PySem.W.keepIn K (.ref f6) = true)
    (a7 : PySem.W.findIn K (.ref CBadWeights) "__init__" = some (some (.ref f7)))
    (i7 : PySem.W.isFn K (.ref f7) = true)
    (l7 : K.lookup f7 = some ⟨oc7, od7, .func (PySem.W.fnOf "__init__" "BadWeights.__init__" (defArgs s_BadWeights_init) (defBody s_BadWeights_init) (defScope s_BadWeights_init) .none kV7 dc7 pm7 an7 cd7 ct7), sl7⟩)
    (c7 : PySem.W.codeIn K cd7 "BadWeights.__init__" = true)
    (k7 : PySem.W.keepIn K (.ref f7) = true)
    (a8 : PySem.W.findIn K (.ref CBadSum) "__init__" = some (some (.ref f8)))
    (i8 : PySem.W.isFn K (.ref f8) = true)
    (l8 : K.lookup f8 = some ⟨oc8, od8, .func (PySem.W.fnOf "__init__" "BadSum.__init__" (defArgs s_BadSum_init) (defBody s_BadSum_init) (defScope s_BadSum_init) .none kV8 dc8 pm8 an8 cd8 ct8), sl8⟩)
    (c8 : PySem.W.codeIn K cd8 "BadSum.__init__" = true)
    (k8 : PySem.W.keepIn K (.ref f8) = true)
    (a9 : PySem.W.findIn K (.ref CBadRests) "__init__" = some (some (.ref f9)))
    (i9 : PySem.W.isFn K (.ref f9) = true)
    (l9 : K.lookup f9 = some ⟨oc9, od9, .func (PySem.W.fnOf "__init__" "BadRests.__init__" (defArgs s_BadRests_init) (defBody s_BadRests_init) (defScope s_BadRests_init) .none kV9 dc9 pm9 an9 cd9 ct9), sl9⟩)
    (c9 : PySem.W.codeIn K cd9 "BadRests.__init__" = true)
    (k9 : PySem.W.keepIn K (.ref f9) = true)
    (a10 : PySem.W.findIn K (.ref CBadRest) "__init__" = some (some (.ref f10)))
    (i10 : PySem.W.isFn K (.ref f10) = true)
    (l10 : K.lookup f10 = some ⟨oc10, od10, .func (PySem.W.fnOf "__init__" "BadRest.__init__" (defArgs s_BadRest_init) (defBody s_BadRest_init) (defScope s_BadRest_init) .none kV10 dc10 pm10 an10 cd10 ct10), sl10⟩)
    (c10 : PySem.W.codeIn K cd10 "BadRest.__init__" = true)
    (k10 : PySem.W.keepIn K (.ref f10) = true)
    (a11 : PySem.W.findIn K (.ref CBadTricks) "__init__" = some (some (.ref f11)))
    (i11 : PySem.W.isFn K (.ref f11) = true)
    (l11 : K.lookup f11 = some ⟨oc11, od11, .func (PySem.W.fnOf "__init__" "BadTricks.__init__" (defArgs s_BadTricks_init) (defBody s_BadTricks_init) (defScope s_BadTricks_init) .none kV11 dc11 pm11 an11 cd11 ct11), sl11⟩)
    (c11 : PySem.W.codeIn K cd11 "BadTricks.__init__" = true)
    (k11 : PySem.W.keepIn K (.ref f11) = true)
    (a12 : PySem.W.findIn K (.ref CBadPairs) "__init__" = some (some (.ref f12)))
    (i12 : PySem.W.isFn K (.ref f12) = true)
    (l12 : K.lookup f12 = some ⟨oc12, od12, .func (PySem.W.fnOf "__init__" "BadPairs.__init__" (defArgs s_BadPairs_init) (defBody s_BadPairs_init) (defScope s_BadPairs_init) .none kV12 dc12 pm12 an12 cd12 ct12), sl12⟩)
    (c12 : PySem.W.codeIn K cd12 "BadPairs.__init__" = true)
    (k12 : PySem.W.keepIn K (.ref f12) = true)
    (a13 : PySem.W.findIn K (.ref CTooWide) "__init__" = some (some (.ref f13)))
    (i13 : PySem.W.isFn K (.ref f13) = true)
    (l13 : K.lookup f13 = some ⟨oc13, od13, .func (PySem.W.fnOf "__init__" "TooWide.__init__" (defArgs s_TooWide_init) (defBody s_TooWide_init) (defScope s_TooWide_init) .none kV13 dc13 pm13 an13 cd13 ct13), sl13⟩)
    (c13 : PySem.W.codeIn K cd13 "TooWide.__init__" = true)
    (k13 : PySem.W.keepIn K (.ref f13) = true)
    (a14 : PySem.W.findIn K (.ref CInvalidText) "__init__" = some (some (.ref f14)))
    (i14 : PySem.W.isFn K (.ref f14) = true)
    (l14 : K.lookup f14 = some ⟨oc14, od14, .func (PySem.W.fnOf "__init__" "InvalidText.__init__" (defArgs s_InvalidText_init) (defBody s_InvalidText_init) (defScope s_InvalidText_init) .none kV14 dc14 pm14 an14 cd14 ct14), sl14⟩)
    (c14 : PySem.W.codeIn K cd14 "InvalidText.__init__" = true)
    (k14 : PySem.W.keepIn K (.ref f14) = true)
    (a15 : PySem.W.nsIn K mainGlobals "is_from" = some (some (.ref f15)))
    (l15 : K.lookup f15 = some ⟨oc15, od15, .func (PySem.W.fnOf "is_from" "is_from" (defArgs s_is_from) (defBody s_is_from) (defScope s_is_from) .none kV15 dc15 pm15 an15 cd15 ct15), sl15⟩)
    (c15 : PySem.W.codeIn K cd15 "is_from" = true)
    (k15 : PySem.W.keepIn K (.ref f15) = true)
    (a16 : PySem.W.nsIn K mainGlobals "need_base" = some (some (.ref f16)))
    (l16 : K.lookup f16 = some ⟨oc16, od16, .func (PySem.W.fnOf "need_base" "need_base" (defArgs s_need_base) (defBody s_need_base) (defScope s_need_base) .none kV16 dc16 pm16 an16 cd16 ct16), sl16⟩)
    (c16 : PySem.W.codeIn K cd16 "need_base" = true)
    (k16 : PySem.W.keepIn K (.ref f16) = true)
    (a17 : PySem.W.nsIn K mainGlobals "need_number" = some (some (.ref f17)))
    (l17 : K.lookup f17 = some ⟨oc17, od17, .func (PySem.W.fnOf "need_number" "need_number" (defArgs s_need_number) (defBody s_need_number) (defScope s_need_number) .none kV17 dc17 pm17 an17 cd17 ct17), sl17⟩)
    (c17 : PySem.W.codeIn K cd17 "need_number" = true)
    (k17 : PySem.W.keepIn K (.ref f17) = true)
    (a18 : PySem.W.nsIn K mainGlobals "need_divisor" = some (some (.ref f18)))
    (l18 : K.lookup f18 = some ⟨oc18, od18, .func (PySem.W.fnOf "need_divisor" "need_divisor" (defArgs s_need_divisor) (defBody s_need_divisor) (defScope s_need_divisor) .none kV18 dc18 pm18 an18 cd18 ct18), sl18⟩)
    (c18 : PySem.W.codeIn K cd18 "need_divisor" = true)
    (k18 : PySem.W.keepIn K (.ref f18) = true)
    (a19 : PySem.W.nsIn K mainGlobals "figures" = some (some (.ref f19)))
    (l19 : K.lookup f19 = some ⟨oc19, od19, .func (PySem.W.fnOf "figures" "figures" (defArgs s_figures) (defBody s_figures) (defScope s_figures) .none kV19 dc19 pm19 an19 cd19 ct19), sl19⟩)
    (c19 : PySem.W.codeIn K cd19 "figures" = true)
    (k19 : PySem.W.keepIn K (.ref f19) = true)
    (a20 : PySem.W.nsIn K mainGlobals "number" = some (some (.ref f20)))
    (l20 : K.lookup f20 = some ⟨oc20, od20, .func (PySem.W.fnOf "number" "number" (defArgs s_number) (defBody s_number) (defScope s_number) .none kV20 dc20 pm20 an20 cd20 ct20), sl20⟩)
    (c20 : PySem.W.codeIn K cd20 "number" = true)
    (k20 : PySem.W.keepIn K (.ref f20) = true)
    (a21 : PySem.W.nsIn K mainGlobals "power" = some (some (.ref f21)))
    (l21 : K.lookup f21 = some ⟨oc21, od21, .func (PySem.W.fnOf "power" "power" (defArgs s_power) (defBody s_power) (defScope s_power) .none kV21 dc21 pm21 an21 cd21 ct21), sl21⟩)
    (c21 : PySem.W.codeIn K cd21 "power" = true)
    (k21 : PySem.W.keepIn K (.ref f21) = true)
    (a22 : PySem.W.findIn K (.ref CTrick) "__init__" = some (some (.ref f22)))
    (i22 : PySem.W.isFn K (.ref f22) = true)
    (l22 : K.lookup f22 = some ⟨oc22, od22, .func (PySem.W.fnOf "__init__" "Trick.__init__" (defArgs s_Trick_init) (defBody s_Trick_init) (defScope s_Trick_init) .none kV22 dc22 pm22 an22 cd22 ct22), sl22⟩)
    (c22 : PySem.W.codeIn K cd22 "Trick.__init__" = true)
    (k22 : PySem.W.keepIn K (.ref f22) = true)
    (a23 : PySem.W.nsIn K mainGlobals "need_trick" = some (some (.ref f23)))
    (l23 : K.lookup f23 = some ⟨oc23, od23, .func (PySem.W.fnOf "need_trick" "need_trick" (defArgs s_need_trick) (defBody s_need_trick) (defScope s_need_trick) .none kV23 dc23 pm23 an23 cd23 ct23), sl23⟩)
    (c23 : PySem.W.codeIn K cd23 "need_trick" = true)
    (k23 : PySem.W.keepIn K (.ref f23) = true)
    (a24 : PySem.W.nsIn K mainGlobals "done" = some (some (.ref f24)))
    (l24 : K.lookup f24 = some ⟨oc24, od24, .func (PySem.W.fnOf "done" "done" (defArgs s_done) (defBody s_done) (defScope s_done) .none kV24 dc24 pm24 an24 cd24 ct24), sl24⟩)
    (c24 : PySem.W.codeIn K cd24 "done" = true)
    (k24 : PySem.W.keepIn K (.ref f24) = true)
    (a25 : PySem.W.nsIn K mainGlobals "tells" = some (some (.ref f25)))
    (l25 : K.lookup f25 = some ⟨oc25, od25, .func (PySem.W.fnOf "tells" "tells" (defArgs s_tells) (defBody s_tells) (defScope s_tells) .none kV25 dc25 pm25 an25 cd25 ct25), sl25⟩)
    (c25 : PySem.W.codeIn K cd25 "tells" = true)
    (k25 : PySem.W.keepIn K (.ref f25) = true)
    (a26 : PySem.W.nsIn K mainGlobals "need_tricks" = some (some (.ref f26)))
    (l26 : K.lookup f26 = some ⟨oc26, od26, .func (PySem.W.fnOf "need_tricks" "need_tricks" (defArgs s_need_tricks) (defBody s_need_tricks) (defScope s_need_tricks) .none kV26 dc26 pm26 an26 cd26 ct26), sl26⟩)
    (c26 : PySem.W.codeIn K cd26 "need_tricks" = true)
    (k26 : PySem.W.keepIn K (.ref f26) = true)
    (a27 : PySem.W.nsIn K mainGlobals "chained" = some (some (.ref f27)))
    (l27 : K.lookup f27 = some ⟨oc27, od27, .func (PySem.W.fnOf "chained" "chained" (defArgs s_chained) (defBody s_chained) (defScope s_chained) .none kV27 dc27 pm27 an27 cd27 ct27), sl27⟩)
    (c27 : PySem.W.codeIn K cd27 "chained" = true)
    (k27 : PySem.W.keepIn K (.ref f27) = true)
    (a28 : PySem.W.nsIn K mainGlobals "wide_of" = some (some (.ref f28)))
    (l28 : K.lookup f28 = some ⟨oc28, od28, .func (PySem.W.fnOf "wide_of" "wide_of" (defArgs s_wide_of) (defBody s_wide_of) (defScope s_wide_of) .none kV28 dc28 pm28 an28 cd28 ct28), sl28⟩)
    (c28 : PySem.W.codeIn K cd28 "wide_of" = true)
    (k28 : PySem.W.keepIn K (.ref f28) = true)
    (a29 : PySem.W.nsIn K mainGlobals "need_chain" = some (some (.ref f29)))
    (l29 : K.lookup f29 = some ⟨oc29, od29, .func (PySem.W.fnOf "need_chain" "need_chain" (defArgs s_need_chain) (defBody s_need_chain) (defScope s_need_chain) .none kV29 dc29 pm29 an29 cd29 ct29), sl29⟩)
    (c29 : PySem.W.codeIn K cd29 "need_chain" = true)
    (k29 : PySem.W.keepIn K (.ref f29) = true)
    (a30 : PySem.W.nsIn K mainGlobals "chain_tells" = some (some (.ref f30)))
    (l30 : K.lookup f30 = some ⟨oc30, od30, .func (PySem.W.fnOf "chain_tells" "chain_tells" (defArgs s_chain_tells) (defBody s_chain_tells) (defScope s_chain_tells) .none kV30 dc30 pm30 an30 cd30 ct30), sl30⟩)
    (c30 : PySem.W.codeIn K cd30 "chain_tells" = true)
    (k30 : PySem.W.keepIn K (.ref f30) = true)
    (a31 : PySem.W.nsIn K mainGlobals "need_labels" = some (some (.ref f31)))
    (l31 : K.lookup f31 = some ⟨oc31, od31, .func (PySem.W.fnOf "need_labels" "need_labels" (defArgs s_need_labels) (defBody s_need_labels) (defScope s_need_labels) .none kV31 dc31 pm31 an31 cd31 ct31), sl31⟩)
    (c31 : PySem.W.codeIn K cd31 "need_labels" = true)
    (k31 : PySem.W.keepIn K (.ref f31) = true)
    (a32 : PySem.W.nsIn K mainGlobals "front_states" = some (some (.ref f32)))
    (l32 : K.lookup f32 = some ⟨oc32, od32, .func (PySem.W.fnOf "front_states" "front_states" (defArgs s_front_states) (defBody s_front_states) (defScope s_front_states) .none kV32 dc32 pm32 an32 cd32 ct32), sl32⟩)
    (c32 : PySem.W.codeIn K cd32 "front_states" = true)
    (k32 : PySem.W.keepIn K (.ref f32) = true)
    (a33 : PySem.W.nsIn K mainGlobals "front_word" = some (some (.ref f33)))
    (l33 : K.lookup f33 = some ⟨oc33, od33, .func (PySem.W.fnOf "front_word" "front_word" (defArgs s_front_word) (defBody s_front_word) (defScope s_front_word) .none kV33 dc33 pm33 an33 cd33 ct33), sl33⟩)
    (c33 : PySem.W.codeIn K cd33 "front_word" = true)
    (k33 : PySem.W.keepIn K (.ref f33) = true)
    (a34 : PySem.W.nsIn K mainGlobals "need_weights" = some (some (.ref f34)))
    (l34 : K.lookup f34 = some ⟨oc34, od34, .func (PySem.W.fnOf "need_weights" "need_weights" (defArgs s_need_weights) (defBody s_need_weights) (defScope s_need_weights) .none kV34 dc34 pm34 an34 cd34 ct34), sl34⟩)
    (c34 : PySem.W.codeIn K cd34 "need_weights" = true)
    (k34 : PySem.W.keepIn K (.ref f34) = true)
    (a35 : PySem.W.findIn K (.ref CSum) "__init__" = some (some (.ref f35)))
    (i35 : PySem.W.isFn K (.ref f35) = true)
    (l35 : K.lookup f35 = some ⟨oc35, od35, .func (PySem.W.fnOf "__init__" "Sum.__init__" (defArgs s_Sum_init) (defBody s_Sum_init) (defScope s_Sum_init) .none kV35 dc35 pm35 an35 cd35 ct35), sl35⟩)
    (c35 : PySem.W.codeIn K cd35 "Sum.__init__" = true)
    (k35 : PySem.W.keepIn K (.ref f35) = true)
    (a36 : PySem.W.nsIn K mainGlobals "need_sum" = some (some (.ref f36)))
    (l36 : K.lookup f36 = some ⟨oc36, od36, .func (PySem.W.fnOf "need_sum" "need_sum" (defArgs s_need_sum) (defBody s_need_sum) (defScope s_need_sum) .none kV36 dc36 pm36 an36 cd36 ct36), sl36⟩)
    (c36 : PySem.W.codeIn K cd36 "need_sum" = true)
    (k36 : PySem.W.keepIn K (.ref f36) = true)
    (a37 : PySem.W.nsIn K mainGlobals "total" = some (some (.ref f37)))
    (l37 : K.lookup f37 = some ⟨oc37, od37, .func (PySem.W.fnOf "total" "total" (defArgs s_total) (defBody s_total) (defScope s_total) .none kV37 dc37 pm37 an37 cd37 ct37), sl37⟩)
    (c37 : PySem.W.codeIn K cd37 "total" = true)
    (k37 : PySem.W.keepIn K (.ref f37) = true)
    (a38 : PySem.W.nsIn K mainGlobals "number_in" = some (some (.ref f38)))
    (l38 : K.lookup f38 = some ⟨oc38, od38, .func (PySem.W.fnOf "number_in" "number_in" (defArgs s_number_in) (defBody s_number_in) (defScope s_number_in) .none kV38 dc38 pm38 an38 cd38 ct38), sl38⟩)
    (c38 : PySem.W.codeIn K cd38 "number_in" = true)
    (k38 : PySem.W.keepIn K (.ref f38) = true)
    (a39 : PySem.W.nsIn K mainGlobals "need_word" = some (some (.ref f39)))
    (l39 : K.lookup f39 = some ⟨oc39, od39, .func (PySem.W.fnOf "need_word" "need_word" (defArgs s_need_word) (defBody s_need_word) (defScope s_need_word) .none kV39 dc39 pm39 an39 cd39 ct39), sl39⟩)
    (c39 : PySem.W.codeIn K cd39 "need_word" = true)
    (k39 : PySem.W.keepIn K (.ref f39) = true)
    (a40 : PySem.W.nsIn K mainGlobals "read" = some (some (.ref f40)))
    (l40 : K.lookup f40 = some ⟨oc40, od40, .func (PySem.W.fnOf "read" "read" (defArgs s_read) (defBody s_read) (defScope s_read) .none kV40 dc40 pm40 an40 cd40 ct40), sl40⟩)
    (c40 : PySem.W.codeIn K cd40 "read" = true)
    (k40 : PySem.W.keepIn K (.ref f40) = true)
    (a41 : PySem.W.nsIn K mainGlobals "need_pairs" = some (some (.ref f41)))
    (l41 : K.lookup f41 = some ⟨oc41, od41, .func (PySem.W.fnOf "need_pairs" "need_pairs" (defArgs s_need_pairs) (defBody s_need_pairs) (defScope s_need_pairs) .none kV41 dc41 pm41 an41 cd41 ct41), sl41⟩)
    (c41 : PySem.W.codeIn K cd41 "need_pairs" = true)
    (k41 : PySem.W.keepIn K (.ref f41) = true)
    (a42 : PySem.W.nsIn K mainGlobals "fitting" = some (some (.ref f42)))
    (l42 : K.lookup f42 = some ⟨oc42, od42, .func (PySem.W.fnOf "fitting" "fitting" (defArgs s_fitting) (defBody s_fitting) (defScope s_fitting) .none kV42 dc42 pm42 an42 cd42 ct42), sl42⟩)
    (c42 : PySem.W.codeIn K cd42 "fitting" = true)
    (k42 : PySem.W.keepIn K (.ref f42) = true)
    (a43 : PySem.W.nsIn K mainGlobals "_law_taken" = some (some (.ref f43)))
    (l43 : K.lookup f43 = some ⟨oc43, od43, .func (PySem.W.fnOf "_law_taken" "_law_taken" (defArgs s_law_taken) (defBody s_law_taken) (defScope s_law_taken) .none kV43 dc43 pm43 an43 cd43 ct43), sl43⟩)
    (c43 : PySem.W.codeIn K cd43 "_law_taken" = true)
    (k43 : PySem.W.keepIn K (.ref f43) = true)
    (a44 : PySem.W.nsIn K mainGlobals "_law_call" = some (some (.ref f44)))
    (l44 : K.lookup f44 = some ⟨oc44, od44, .func (PySem.W.fnOf "_law_call" "_law_call" (defArgs s_law_call) (defBody s_law_call) (defScope s_law_call) .none kV44 dc44 pm44 an44 cd44 ct44), sl44⟩)
    (c44 : PySem.W.codeIn K cd44 "_law_call" = true)
    (k44 : PySem.W.keepIn K (.ref f44) = true)
    (a45 : PySem.W.nsIn K mainGlobals "_law_early" = some (some (.ref f45)))
    (l45 : K.lookup f45 = some ⟨oc45, od45, .func (PySem.W.fnOf "_law_early" "_law_early" (defArgs s_law_early) (defBody s_law_early) (defScope s_law_early) .none kV45 dc45 pm45 an45 cd45 ct45), sl45⟩)
    (c45 : PySem.W.codeIn K cd45 "_law_early" = true)
    (k45 : PySem.W.keepIn K (.ref f45) = true)
    (a46 : PySem.W.nsIn K mainGlobals "_law_first" = some (some (.ref f46)))
    (l46 : K.lookup f46 = some ⟨oc46, od46, .func (PySem.W.fnOf "_law_first" "_law_first" (defArgs s_law_first) (defBody s_law_first) (defScope s_law_first) .none kV46 dc46 pm46 an46 cd46 ct46), sl46⟩)
    (c46 : PySem.W.codeIn K cd46 "_law_first" = true)
    (k46 : PySem.W.keepIn K (.ref f46) = true)
    (a47 : PySem.W.nsIn K mainGlobals "_law_second" = some (some (.ref f47)))
    (l47 : K.lookup f47 = some ⟨oc47, od47, .func (PySem.W.fnOf "_law_second" "_law_second" (defArgs s_law_second) (defBody s_law_second) (defScope s_law_second) .none kV47 dc47 pm47 an47 cd47 ct47), sl47⟩)
    (c47 : PySem.W.codeIn K cd47 "_law_second" = true)
    (k47 : PySem.W.keepIn K (.ref f47) = true)
    (a48 : PySem.W.nsIn K mainGlobals "law" = some (some (.ref f48)))
    (l48 : K.lookup f48 = some ⟨oc48, od48, .func (PySem.W.fnOf "law" "law" (defArgs s_law) (defBody s_law) (defScope s_law) .none kV48 dc48 pm48 an48 cd48 ct48), sl48⟩)
    (c48 : PySem.W.codeIn K cd48 "law" = true)
    (k48 : PySem.W.keepIn K (.ref f48) = true)
    (aCTrickError : PySem.W.nsIn K mainGlobals "TrickError" = some (some (.ref CTrickError)))
    (aCBadBase : PySem.W.nsIn K mainGlobals "BadBase" = some (some (.ref CBadBase)))
    (aCBadTake : PySem.W.nsIn K mainGlobals "BadTake" = some (some (.ref CBadTake)))
    (aCBadTimes : PySem.W.nsIn K mainGlobals "BadTimes" = some (some (.ref CBadTimes)))
    (aCBadTrick : PySem.W.nsIn K mainGlobals "BadTrick" = some (some (.ref CBadTrick)))
    (aCBadNumber : PySem.W.nsIn K mainGlobals "BadNumber" = some (some (.ref CBadNumber)))
    (aCBadDivisor : PySem.W.nsIn K mainGlobals "BadDivisor" = some (some (.ref CBadDivisor)))
    (aCBadFigures : PySem.W.nsIn K mainGlobals "BadFigures" = some (some (.ref CBadFigures)))
    (aCBadWeights : PySem.W.nsIn K mainGlobals "BadWeights" = some (some (.ref CBadWeights)))
    (aCBadSum : PySem.W.nsIn K mainGlobals "BadSum" = some (some (.ref CBadSum)))
    (aCBadRests : PySem.W.nsIn K mainGlobals "BadRests" = some (some (.ref CBadRests)))
    (aCBadRest : PySem.W.nsIn K mainGlobals "BadRest" = some (some (.ref CBadRest)))
    (aCBadTricks : PySem.W.nsIn K mainGlobals "BadTricks" = some (some (.ref CBadTricks)))
    (aCBadPairs : PySem.W.nsIn K mainGlobals "BadPairs" = some (some (.ref CBadPairs)))
    (aCTooWide : PySem.W.nsIn K mainGlobals "TooWide" = some (some (.ref CTooWide)))
    (aCInvalidText : PySem.W.nsIn K mainGlobals "InvalidText" = some (some (.ref CInvalidText)))
    (rdTrickError : PySem.W.readsIn K CTrickError (.type "type") = true)
    (gtTrickError : PySem.W.specialIn K (.ref CTrickError) "__getattribute__" = some (some (.builtin "type.__getattribute__")))
    (fcTrickError : PySem.W.findCls K (.ref CTrickError) (.type "type") "__init__" = some (.val (.builtin "ValueError.__init__")))
    (xLBadBase : K.lookup CBadBase = some (excClassObj xnBadBase xqBadBase CBadBase xNBadBase xbBadBase [.ref CTrickError, .type "ValueError", .type "Exception", .type "BaseException", .type "object"] true xsBadBase xuBadBase xaBadBase xcBadBase xdBadBase x0BadBase x1BadBase x2BadBase x3BadBase x5BadBase "ValueError.__new__"))
    (saBadBase : PySem.W.findIn K (.ref CBadBase) "__setattr__" = some (some (.builtin "object.__setattr__")))
    (eCBadBase : PySem.W.subIn K (.ref CBadBase) (.type "BaseException") = some true)
    (tyBadBase : PySem.W.typeIn K (.ref CBadBase) = some (.type "type"))
    (kcBadBase : PySem.W.keepIn K (.ref CBadBase) = true)
    (gaBadBase : PySem.W.findIn K (.ref CBadBase) "__getattribute__" = some (some (.builtin "BaseException.__getattribute__")))
    (ggBadBase : PySem.W.findIn K (.ref CBadBase) "__getattr__" = some none)
    (hdBadBase : PySem.W.hasDictIn K CBadBase = true)
    (xLBadTake : K.lookup CBadTake = some (excClassObj xnBadTake xqBadTake CBadTake xNBadTake xbBadTake [.ref CTrickError, .type "ValueError", .type "Exception", .type "BaseException", .type "object"] true xsBadTake xuBadTake xaBadTake xcBadTake xdBadTake x0BadTake x1BadTake x2BadTake x3BadTake x5BadTake "ValueError.__new__"))
    (saBadTake : PySem.W.findIn K (.ref CBadTake) "__setattr__" = some (some (.builtin "object.__setattr__")))
    (eCBadTake : PySem.W.subIn K (.ref CBadTake) (.type "BaseException") = some true)
    (tyBadTake : PySem.W.typeIn K (.ref CBadTake) = some (.type "type"))
    (kcBadTake : PySem.W.keepIn K (.ref CBadTake) = true)
    (gaBadTake : PySem.W.findIn K (.ref CBadTake) "__getattribute__" = some (some (.builtin "BaseException.__getattribute__")))
    (ggBadTake : PySem.W.findIn K (.ref CBadTake) "__getattr__" = some none)
    (hdBadTake : PySem.W.hasDictIn K CBadTake = true)
    (xLBadTimes : K.lookup CBadTimes = some (excClassObj xnBadTimes xqBadTimes CBadTimes xNBadTimes xbBadTimes [.ref CTrickError, .type "ValueError", .type "Exception", .type "BaseException", .type "object"] true xsBadTimes xuBadTimes xaBadTimes xcBadTimes xdBadTimes x0BadTimes x1BadTimes x2BadTimes x3BadTimes x5BadTimes "ValueError.__new__"))
    (saBadTimes : PySem.W.findIn K (.ref CBadTimes) "__setattr__" = some (some (.builtin "object.__setattr__")))
    (eCBadTimes : PySem.W.subIn K (.ref CBadTimes) (.type "BaseException") = some true)
    (tyBadTimes : PySem.W.typeIn K (.ref CBadTimes) = some (.type "type"))
    (kcBadTimes : PySem.W.keepIn K (.ref CBadTimes) = true)
    (gaBadTimes : PySem.W.findIn K (.ref CBadTimes) "__getattribute__" = some (some (.builtin "BaseException.__getattribute__")))
    (ggBadTimes : PySem.W.findIn K (.ref CBadTimes) "__getattr__" = some none)
    (hdBadTimes : PySem.W.hasDictIn K CBadTimes = true)
    (xLBadTrick : K.lookup CBadTrick = some (excClassObj xnBadTrick xqBadTrick CBadTrick xNBadTrick xbBadTrick [.ref CTrickError, .type "ValueError", .type "Exception", .type "BaseException", .type "object"] true xsBadTrick xuBadTrick xaBadTrick xcBadTrick xdBadTrick x0BadTrick x1BadTrick x2BadTrick x3BadTrick x5BadTrick "ValueError.__new__"))
    (saBadTrick : PySem.W.findIn K (.ref CBadTrick) "__setattr__" = some (some (.builtin "object.__setattr__")))
    (eCBadTrick : PySem.W.subIn K (.ref CBadTrick) (.type "BaseException") = some true)
    (tyBadTrick : PySem.W.typeIn K (.ref CBadTrick) = some (.type "type"))
    (kcBadTrick : PySem.W.keepIn K (.ref CBadTrick) = true)
    (gaBadTrick : PySem.W.findIn K (.ref CBadTrick) "__getattribute__" = some (some (.builtin "BaseException.__getattribute__")))
    (ggBadTrick : PySem.W.findIn K (.ref CBadTrick) "__getattr__" = some none)
    (hdBadTrick : PySem.W.hasDictIn K CBadTrick = true)
    (xLBadNumber : K.lookup CBadNumber = some (excClassObj xnBadNumber xqBadNumber CBadNumber xNBadNumber xbBadNumber [.ref CTrickError, .type "ValueError", .type "Exception", .type "BaseException", .type "object"] true xsBadNumber xuBadNumber xaBadNumber xcBadNumber xdBadNumber x0BadNumber x1BadNumber x2BadNumber x3BadNumber x5BadNumber "ValueError.__new__"))
    (saBadNumber : PySem.W.findIn K (.ref CBadNumber) "__setattr__" = some (some (.builtin "object.__setattr__")))
    (eCBadNumber : PySem.W.subIn K (.ref CBadNumber) (.type "BaseException") = some true)
    (tyBadNumber : PySem.W.typeIn K (.ref CBadNumber) = some (.type "type"))
    (kcBadNumber : PySem.W.keepIn K (.ref CBadNumber) = true)
    (gaBadNumber : PySem.W.findIn K (.ref CBadNumber) "__getattribute__" = some (some (.builtin "BaseException.__getattribute__")))
    (ggBadNumber : PySem.W.findIn K (.ref CBadNumber) "__getattr__" = some none)
    (hdBadNumber : PySem.W.hasDictIn K CBadNumber = true)
    (nfBadNumber_n : PySem.W.findIn K (.ref CBadNumber) "n" = some none)
    (xLBadDivisor : K.lookup CBadDivisor = some (excClassObj xnBadDivisor xqBadDivisor CBadDivisor xNBadDivisor xbBadDivisor [.ref CTrickError, .type "ValueError", .type "Exception", .type "BaseException", .type "object"] true xsBadDivisor xuBadDivisor xaBadDivisor xcBadDivisor xdBadDivisor x0BadDivisor x1BadDivisor x2BadDivisor x3BadDivisor x5BadDivisor "ValueError.__new__"))
    (saBadDivisor : PySem.W.findIn K (.ref CBadDivisor) "__setattr__" = some (some (.builtin "object.__setattr__")))
    (eCBadDivisor : PySem.W.subIn K (.ref CBadDivisor) (.type "BaseException") = some true)
    (tyBadDivisor : PySem.W.typeIn K (.ref CBadDivisor) = some (.type "type"))
    (kcBadDivisor : PySem.W.keepIn K (.ref CBadDivisor) = true)
    (gaBadDivisor : PySem.W.findIn K (.ref CBadDivisor) "__getattribute__" = some (some (.builtin "BaseException.__getattribute__")))
    (ggBadDivisor : PySem.W.findIn K (.ref CBadDivisor) "__getattr__" = some none)
    (hdBadDivisor : PySem.W.hasDictIn K CBadDivisor = true)
    (xLBadFigures : K.lookup CBadFigures = some (excClassObj xnBadFigures xqBadFigures CBadFigures xNBadFigures xbBadFigures [.ref CTrickError, .type "ValueError", .type "Exception", .type "BaseException", .type "object"] true xsBadFigures xuBadFigures xaBadFigures xcBadFigures xdBadFigures x0BadFigures x1BadFigures x2BadFigures x3BadFigures x5BadFigures "ValueError.__new__"))
    (saBadFigures : PySem.W.findIn K (.ref CBadFigures) "__setattr__" = some (some (.builtin "object.__setattr__")))
    (eCBadFigures : PySem.W.subIn K (.ref CBadFigures) (.type "BaseException") = some true)
    (tyBadFigures : PySem.W.typeIn K (.ref CBadFigures) = some (.type "type"))
    (kcBadFigures : PySem.W.keepIn K (.ref CBadFigures) = true)
    (gaBadFigures : PySem.W.findIn K (.ref CBadFigures) "__getattribute__" = some (some (.builtin "BaseException.__getattribute__")))
    (ggBadFigures : PySem.W.findIn K (.ref CBadFigures) "__getattr__" = some none)
    (hdBadFigures : PySem.W.hasDictIn K CBadFigures = true)
    (nfBadFigures_index : PySem.W.findIn K (.ref CBadFigures) "index" = some none)
    (xLBadWeights : K.lookup CBadWeights = some (excClassObj xnBadWeights xqBadWeights CBadWeights xNBadWeights xbBadWeights [.ref CTrickError, .type "ValueError", .type "Exception", .type "BaseException", .type "object"] true xsBadWeights xuBadWeights xaBadWeights xcBadWeights xdBadWeights x0BadWeights x1BadWeights x2BadWeights x3BadWeights x5BadWeights "ValueError.__new__"))
    (saBadWeights : PySem.W.findIn K (.ref CBadWeights) "__setattr__" = some (some (.builtin "object.__setattr__")))
    (eCBadWeights : PySem.W.subIn K (.ref CBadWeights) (.type "BaseException") = some true)
    (tyBadWeights : PySem.W.typeIn K (.ref CBadWeights) = some (.type "type"))
    (kcBadWeights : PySem.W.keepIn K (.ref CBadWeights) = true)
    (gaBadWeights : PySem.W.findIn K (.ref CBadWeights) "__getattribute__" = some (some (.builtin "BaseException.__getattribute__")))
    (ggBadWeights : PySem.W.findIn K (.ref CBadWeights) "__getattr__" = some none)
    (hdBadWeights : PySem.W.hasDictIn K CBadWeights = true)
    (nfBadWeights_index : PySem.W.findIn K (.ref CBadWeights) "index" = some none)
    (xLBadSum : K.lookup CBadSum = some (excClassObj xnBadSum xqBadSum CBadSum xNBadSum xbBadSum [.ref CTrickError, .type "ValueError", .type "Exception", .type "BaseException", .type "object"] true xsBadSum xuBadSum xaBadSum xcBadSum xdBadSum x0BadSum x1BadSum x2BadSum x3BadSum x5BadSum "ValueError.__new__"))
    (saBadSum : PySem.W.findIn K (.ref CBadSum) "__setattr__" = some (some (.builtin "object.__setattr__")))
    (eCBadSum : PySem.W.subIn K (.ref CBadSum) (.type "BaseException") = some true)
    (tyBadSum : PySem.W.typeIn K (.ref CBadSum) = some (.type "type"))
    (kcBadSum : PySem.W.keepIn K (.ref CBadSum) = true)
    (gaBadSum : PySem.W.findIn K (.ref CBadSum) "__getattribute__" = some (some (.builtin "BaseException.__getattribute__")))
    (ggBadSum : PySem.W.findIn K (.ref CBadSum) "__getattr__" = some none)
    (hdBadSum : PySem.W.hasDictIn K CBadSum = true)
    (xLBadRests : K.lookup CBadRests = some (excClassObj xnBadRests xqBadRests CBadRests xNBadRests xbBadRests [.ref CTrickError, .type "ValueError", .type "Exception", .type "BaseException", .type "object"] true xsBadRests xuBadRests xaBadRests xcBadRests xdBadRests x0BadRests x1BadRests x2BadRests x3BadRests x5BadRests "ValueError.__new__"))
    (saBadRests : PySem.W.findIn K (.ref CBadRests) "__setattr__" = some (some (.builtin "object.__setattr__")))
    (eCBadRests : PySem.W.subIn K (.ref CBadRests) (.type "BaseException") = some true)
    (tyBadRests : PySem.W.typeIn K (.ref CBadRests) = some (.type "type"))
    (kcBadRests : PySem.W.keepIn K (.ref CBadRests) = true)
    (gaBadRests : PySem.W.findIn K (.ref CBadRests) "__getattribute__" = some (some (.builtin "BaseException.__getattribute__")))
    (ggBadRests : PySem.W.findIn K (.ref CBadRests) "__getattr__" = some none)
    (hdBadRests : PySem.W.hasDictIn K CBadRests = true)
    (nfBadRests_index : PySem.W.findIn K (.ref CBadRests) "index" = some none)
    (xLBadRest : K.lookup CBadRest = some (excClassObj xnBadRest xqBadRest CBadRest xNBadRest xbBadRest [.ref CTrickError, .type "ValueError", .type "Exception", .type "BaseException", .type "object"] true xsBadRest xuBadRest xaBadRest xcBadRest xdBadRest x0BadRest x1BadRest x2BadRest x3BadRest x5BadRest "ValueError.__new__"))
    (saBadRest : PySem.W.findIn K (.ref CBadRest) "__setattr__" = some (some (.builtin "object.__setattr__")))
    (eCBadRest : PySem.W.subIn K (.ref CBadRest) (.type "BaseException") = some true)
    (tyBadRest : PySem.W.typeIn K (.ref CBadRest) = some (.type "type"))
    (kcBadRest : PySem.W.keepIn K (.ref CBadRest) = true)
    (gaBadRest : PySem.W.findIn K (.ref CBadRest) "__getattribute__" = some (some (.builtin "BaseException.__getattribute__")))
    (ggBadRest : PySem.W.findIn K (.ref CBadRest) "__getattr__" = some none)
    (hdBadRest : PySem.W.hasDictIn K CBadRest = true)
    (xLBadTricks : K.lookup CBadTricks = some (excClassObj xnBadTricks xqBadTricks CBadTricks xNBadTricks xbBadTricks [.ref CTrickError, .type "ValueError", .type "Exception", .type "BaseException", .type "object"] true xsBadTricks xuBadTricks xaBadTricks xcBadTricks xdBadTricks x0BadTricks x1BadTricks x2BadTricks x3BadTricks x5BadTricks "ValueError.__new__"))
    (saBadTricks : PySem.W.findIn K (.ref CBadTricks) "__setattr__" = some (some (.builtin "object.__setattr__")))
    (eCBadTricks : PySem.W.subIn K (.ref CBadTricks) (.type "BaseException") = some true)
    (tyBadTricks : PySem.W.typeIn K (.ref CBadTricks) = some (.type "type"))
    (kcBadTricks : PySem.W.keepIn K (.ref CBadTricks) = true)
    (gaBadTricks : PySem.W.findIn K (.ref CBadTricks) "__getattribute__" = some (some (.builtin "BaseException.__getattribute__")))
    (ggBadTricks : PySem.W.findIn K (.ref CBadTricks) "__getattr__" = some none)
    (hdBadTricks : PySem.W.hasDictIn K CBadTricks = true)
    (nfBadTricks_index : PySem.W.findIn K (.ref CBadTricks) "index" = some none)
    (xLBadPairs : K.lookup CBadPairs = some (excClassObj xnBadPairs xqBadPairs CBadPairs xNBadPairs xbBadPairs [.ref CTrickError, .type "ValueError", .type "Exception", .type "BaseException", .type "object"] true xsBadPairs xuBadPairs xaBadPairs xcBadPairs xdBadPairs x0BadPairs x1BadPairs x2BadPairs x3BadPairs x5BadPairs "ValueError.__new__"))
    (saBadPairs : PySem.W.findIn K (.ref CBadPairs) "__setattr__" = some (some (.builtin "object.__setattr__")))
    (eCBadPairs : PySem.W.subIn K (.ref CBadPairs) (.type "BaseException") = some true)
    (tyBadPairs : PySem.W.typeIn K (.ref CBadPairs) = some (.type "type"))
    (kcBadPairs : PySem.W.keepIn K (.ref CBadPairs) = true)
    (gaBadPairs : PySem.W.findIn K (.ref CBadPairs) "__getattribute__" = some (some (.builtin "BaseException.__getattribute__")))
    (ggBadPairs : PySem.W.findIn K (.ref CBadPairs) "__getattr__" = some none)
    (hdBadPairs : PySem.W.hasDictIn K CBadPairs = true)
    (nfBadPairs_index : PySem.W.findIn K (.ref CBadPairs) "index" = some none)
    (xLTooWide : K.lookup CTooWide = some (excClassObj xnTooWide xqTooWide CTooWide xNTooWide xbTooWide [.ref CTrickError, .type "ValueError", .type "Exception", .type "BaseException", .type "object"] true xsTooWide xuTooWide xaTooWide xcTooWide xdTooWide x0TooWide x1TooWide x2TooWide x3TooWide x5TooWide "ValueError.__new__"))
    (saTooWide : PySem.W.findIn K (.ref CTooWide) "__setattr__" = some (some (.builtin "object.__setattr__")))
    (eCTooWide : PySem.W.subIn K (.ref CTooWide) (.type "BaseException") = some true)
    (tyTooWide : PySem.W.typeIn K (.ref CTooWide) = some (.type "type"))
    (kcTooWide : PySem.W.keepIn K (.ref CTooWide) = true)
    (gaTooWide : PySem.W.findIn K (.ref CTooWide) "__getattribute__" = some (some (.builtin "BaseException.__getattribute__")))
    (ggTooWide : PySem.W.findIn K (.ref CTooWide) "__getattr__" = some none)
    (hdTooWide : PySem.W.hasDictIn K CTooWide = true)
    (nfTooWide_most : PySem.W.findIn K (.ref CTooWide) "most" = some none)
    (xLInvalidText : K.lookup CInvalidText = some (excClassObj xnInvalidText xqInvalidText CInvalidText xNInvalidText xbInvalidText [.ref CTrickError, .type "ValueError", .type "Exception", .type "BaseException", .type "object"] true xsInvalidText xuInvalidText xaInvalidText xcInvalidText xdInvalidText x0InvalidText x1InvalidText x2InvalidText x3InvalidText x5InvalidText "ValueError.__new__"))
    (saInvalidText : PySem.W.findIn K (.ref CInvalidText) "__setattr__" = some (some (.builtin "object.__setattr__")))
    (eCInvalidText : PySem.W.subIn K (.ref CInvalidText) (.type "BaseException") = some true)
    (tyInvalidText : PySem.W.typeIn K (.ref CInvalidText) = some (.type "type"))
    (kcInvalidText : PySem.W.keepIn K (.ref CInvalidText) = true)
    (gaInvalidText : PySem.W.findIn K (.ref CInvalidText) "__getattribute__" = some (some (.builtin "BaseException.__getattribute__")))
    (ggInvalidText : PySem.W.findIn K (.ref CInvalidText) "__getattr__" = some none)
    (hdInvalidText : PySem.W.hasDictIn K CInvalidText = true)
    (nfInvalidText_word : PySem.W.findIn K (.ref CInvalidText) "word" = some none)
    (sbBadBase_BadSum : PySem.W.subIn K (.ref CBadBase) (.ref CBadSum) = some false)
    (sbBadTake_BadSum : PySem.W.subIn K (.ref CBadTake) (.ref CBadSum) = some false)
    (sbBadTimes_BadSum : PySem.W.subIn K (.ref CBadTimes) (.ref CBadSum) = some false)
    (sbBadTrick_BadSum : PySem.W.subIn K (.ref CBadTrick) (.ref CBadSum) = some false)
    (sbBadNumber_BadSum : PySem.W.subIn K (.ref CBadNumber) (.ref CBadSum) = some false)
    (sbBadDivisor_BadSum : PySem.W.subIn K (.ref CBadDivisor) (.ref CBadSum) = some false)
    (sbBadFigures_BadSum : PySem.W.subIn K (.ref CBadFigures) (.ref CBadSum) = some false)
    (sbBadWeights_BadSum : PySem.W.subIn K (.ref CBadWeights) (.ref CBadSum) = some false)
    (sbBadSum_BadSum : PySem.W.subIn K (.ref CBadSum) (.ref CBadSum) = some true)
    (sbBadRests_BadSum : PySem.W.subIn K (.ref CBadRests) (.ref CBadSum) = some false)
    (sbBadRest_BadSum : PySem.W.subIn K (.ref CBadRest) (.ref CBadSum) = some false)
    (sbBadTricks_BadSum : PySem.W.subIn K (.ref CBadTricks) (.ref CBadSum) = some false)
    (sbBadPairs_BadSum : PySem.W.subIn K (.ref CBadPairs) (.ref CBadSum) = some false)
    (sbTooWide_BadSum : PySem.W.subIn K (.ref CTooWide) (.ref CBadSum) = some false)
    (sbInvalidText_BadSum : PySem.W.subIn K (.ref CInvalidText) (.ref CBadSum) = some false)
    (sbBadBase_BadRests : PySem.W.subIn K (.ref CBadBase) (.ref CBadRests) = some false)
    (sbBadTake_BadRests : PySem.W.subIn K (.ref CBadTake) (.ref CBadRests) = some false)
    (sbBadTimes_BadRests : PySem.W.subIn K (.ref CBadTimes) (.ref CBadRests) = some false)
    (sbBadTrick_BadRests : PySem.W.subIn K (.ref CBadTrick) (.ref CBadRests) = some false)
    (sbBadNumber_BadRests : PySem.W.subIn K (.ref CBadNumber) (.ref CBadRests) = some false)
    (sbBadDivisor_BadRests : PySem.W.subIn K (.ref CBadDivisor) (.ref CBadRests) = some false)
    (sbBadFigures_BadRests : PySem.W.subIn K (.ref CBadFigures) (.ref CBadRests) = some false)
    (sbBadWeights_BadRests : PySem.W.subIn K (.ref CBadWeights) (.ref CBadRests) = some false)
    (sbBadSum_BadRests : PySem.W.subIn K (.ref CBadSum) (.ref CBadRests) = some false)
    (sbBadRests_BadRests : PySem.W.subIn K (.ref CBadRests) (.ref CBadRests) = some true)
    (sbBadRest_BadRests : PySem.W.subIn K (.ref CBadRest) (.ref CBadRests) = some false)
    (sbBadTricks_BadRests : PySem.W.subIn K (.ref CBadTricks) (.ref CBadRests) = some false)
    (sbBadPairs_BadRests : PySem.W.subIn K (.ref CBadPairs) (.ref CBadRests) = some false)
    (sbTooWide_BadRests : PySem.W.subIn K (.ref CTooWide) (.ref CBadRests) = some false)
    (sbInvalidText_BadRests : PySem.W.subIn K (.ref CInvalidText) (.ref CBadRests) = some false)
    (sbBadBase_BadRest : PySem.W.subIn K (.ref CBadBase) (.ref CBadRest) = some false)
    (sbBadTake_BadRest : PySem.W.subIn K (.ref CBadTake) (.ref CBadRest) = some false)
    (sbBadTimes_BadRest : PySem.W.subIn K (.ref CBadTimes) (.ref CBadRest) = some false)
    (sbBadTrick_BadRest : PySem.W.subIn K (.ref CBadTrick) (.ref CBadRest) = some false)
    (sbBadNumber_BadRest : PySem.W.subIn K (.ref CBadNumber) (.ref CBadRest) = some false)
    (sbBadDivisor_BadRest : PySem.W.subIn K (.ref CBadDivisor) (.ref CBadRest) = some false)
    (sbBadFigures_BadRest : PySem.W.subIn K (.ref CBadFigures) (.ref CBadRest) = some false)
    (sbBadWeights_BadRest : PySem.W.subIn K (.ref CBadWeights) (.ref CBadRest) = some false)
    (sbBadSum_BadRest : PySem.W.subIn K (.ref CBadSum) (.ref CBadRest) = some false)
    (sbBadRests_BadRest : PySem.W.subIn K (.ref CBadRests) (.ref CBadRest) = some false)
    (sbBadRest_BadRest : PySem.W.subIn K (.ref CBadRest) (.ref CBadRest) = some true)
    (sbBadTricks_BadRest : PySem.W.subIn K (.ref CBadTricks) (.ref CBadRest) = some false)
    (sbBadPairs_BadRest : PySem.W.subIn K (.ref CBadPairs) (.ref CBadRest) = some false)
    (sbTooWide_BadRest : PySem.W.subIn K (.ref CTooWide) (.ref CBadRest) = some false)
    (sbInvalidText_BadRest : PySem.W.subIn K (.ref CInvalidText) (.ref CBadRest) = some false)
    (sbBadBase_BadTricks : PySem.W.subIn K (.ref CBadBase) (.ref CBadTricks) = some false)
    (sbBadTake_BadTricks : PySem.W.subIn K (.ref CBadTake) (.ref CBadTricks) = some false)
    (sbBadTimes_BadTricks : PySem.W.subIn K (.ref CBadTimes) (.ref CBadTricks) = some false)
    (sbBadTrick_BadTricks : PySem.W.subIn K (.ref CBadTrick) (.ref CBadTricks) = some false)
    (sbBadNumber_BadTricks : PySem.W.subIn K (.ref CBadNumber) (.ref CBadTricks) = some false)
    (sbBadDivisor_BadTricks : PySem.W.subIn K (.ref CBadDivisor) (.ref CBadTricks) = some false)
    (sbBadFigures_BadTricks : PySem.W.subIn K (.ref CBadFigures) (.ref CBadTricks) = some false)
    (sbBadWeights_BadTricks : PySem.W.subIn K (.ref CBadWeights) (.ref CBadTricks) = some false)
    (sbBadSum_BadTricks : PySem.W.subIn K (.ref CBadSum) (.ref CBadTricks) = some false)
    (sbBadRests_BadTricks : PySem.W.subIn K (.ref CBadRests) (.ref CBadTricks) = some false)
    (sbBadRest_BadTricks : PySem.W.subIn K (.ref CBadRest) (.ref CBadTricks) = some false)
    (sbBadTricks_BadTricks : PySem.W.subIn K (.ref CBadTricks) (.ref CBadTricks) = some true)
    (sbBadPairs_BadTricks : PySem.W.subIn K (.ref CBadPairs) (.ref CBadTricks) = some false)
    (sbTooWide_BadTricks : PySem.W.subIn K (.ref CTooWide) (.ref CBadTricks) = some false)
    (sbInvalidText_BadTricks : PySem.W.subIn K (.ref CInvalidText) (.ref CBadTricks) = some false)
    (sbBadBase_BadPairs : PySem.W.subIn K (.ref CBadBase) (.ref CBadPairs) = some false)
    (sbBadTake_BadPairs : PySem.W.subIn K (.ref CBadTake) (.ref CBadPairs) = some false)
    (sbBadTimes_BadPairs : PySem.W.subIn K (.ref CBadTimes) (.ref CBadPairs) = some false)
    (sbBadTrick_BadPairs : PySem.W.subIn K (.ref CBadTrick) (.ref CBadPairs) = some false)
    (sbBadNumber_BadPairs : PySem.W.subIn K (.ref CBadNumber) (.ref CBadPairs) = some false)
    (sbBadDivisor_BadPairs : PySem.W.subIn K (.ref CBadDivisor) (.ref CBadPairs) = some false)
    (sbBadFigures_BadPairs : PySem.W.subIn K (.ref CBadFigures) (.ref CBadPairs) = some false)
    (sbBadWeights_BadPairs : PySem.W.subIn K (.ref CBadWeights) (.ref CBadPairs) = some false)
    (sbBadSum_BadPairs : PySem.W.subIn K (.ref CBadSum) (.ref CBadPairs) = some false)
    (sbBadRests_BadPairs : PySem.W.subIn K (.ref CBadRests) (.ref CBadPairs) = some false)
    (sbBadRest_BadPairs : PySem.W.subIn K (.ref CBadRest) (.ref CBadPairs) = some false)
    (sbBadTricks_BadPairs : PySem.W.subIn K (.ref CBadTricks) (.ref CBadPairs) = some false)
    (sbBadPairs_BadPairs : PySem.W.subIn K (.ref CBadPairs) (.ref CBadPairs) = some true)
    (sbTooWide_BadPairs : PySem.W.subIn K (.ref CTooWide) (.ref CBadPairs) = some false)
    (sbInvalidText_BadPairs : PySem.W.subIn K (.ref CInvalidText) (.ref CBadPairs) = some false)
    (sbBadBase_TooWide : PySem.W.subIn K (.ref CBadBase) (.ref CTooWide) = some false)
    (sbBadTake_TooWide : PySem.W.subIn K (.ref CBadTake) (.ref CTooWide) = some false)
    (sbBadTimes_TooWide : PySem.W.subIn K (.ref CBadTimes) (.ref CTooWide) = some false)
    (sbBadTrick_TooWide : PySem.W.subIn K (.ref CBadTrick) (.ref CTooWide) = some false)
    (sbBadNumber_TooWide : PySem.W.subIn K (.ref CBadNumber) (.ref CTooWide) = some false)
    (sbBadDivisor_TooWide : PySem.W.subIn K (.ref CBadDivisor) (.ref CTooWide) = some false)
    (sbBadFigures_TooWide : PySem.W.subIn K (.ref CBadFigures) (.ref CTooWide) = some false)
    (sbBadWeights_TooWide : PySem.W.subIn K (.ref CBadWeights) (.ref CTooWide) = some false)
    (sbBadSum_TooWide : PySem.W.subIn K (.ref CBadSum) (.ref CTooWide) = some false)
    (sbBadRests_TooWide : PySem.W.subIn K (.ref CBadRests) (.ref CTooWide) = some false)
    (sbBadRest_TooWide : PySem.W.subIn K (.ref CBadRest) (.ref CTooWide) = some false)
    (sbBadTricks_TooWide : PySem.W.subIn K (.ref CBadTricks) (.ref CTooWide) = some false)
    (sbBadPairs_TooWide : PySem.W.subIn K (.ref CBadPairs) (.ref CTooWide) = some false)
    (sbTooWide_TooWide : PySem.W.subIn K (.ref CTooWide) (.ref CTooWide) = some true)
    (sbInvalidText_TooWide : PySem.W.subIn K (.ref CInvalidText) (.ref CTooWide) = some false)
    (sbBadBase_InvalidText : PySem.W.subIn K (.ref CBadBase) (.ref CInvalidText) = some false)
    (sbBadTake_InvalidText : PySem.W.subIn K (.ref CBadTake) (.ref CInvalidText) = some false)
    (sbBadTimes_InvalidText : PySem.W.subIn K (.ref CBadTimes) (.ref CInvalidText) = some false)
    (sbBadTrick_InvalidText : PySem.W.subIn K (.ref CBadTrick) (.ref CInvalidText) = some false)
    (sbBadNumber_InvalidText : PySem.W.subIn K (.ref CBadNumber) (.ref CInvalidText) = some false)
    (sbBadDivisor_InvalidText : PySem.W.subIn K (.ref CBadDivisor) (.ref CInvalidText) = some false)
    (sbBadFigures_InvalidText : PySem.W.subIn K (.ref CBadFigures) (.ref CInvalidText) = some false)
    (sbBadWeights_InvalidText : PySem.W.subIn K (.ref CBadWeights) (.ref CInvalidText) = some false)
    (sbBadSum_InvalidText : PySem.W.subIn K (.ref CBadSum) (.ref CInvalidText) = some false)
    (sbBadRests_InvalidText : PySem.W.subIn K (.ref CBadRests) (.ref CInvalidText) = some false)
    (sbBadRest_InvalidText : PySem.W.subIn K (.ref CBadRest) (.ref CInvalidText) = some false)
    (sbBadTricks_InvalidText : PySem.W.subIn K (.ref CBadTricks) (.ref CInvalidText) = some false)
    (sbBadPairs_InvalidText : PySem.W.subIn K (.ref CBadPairs) (.ref CInvalidText) = some false)
    (sbTooWide_InvalidText : PySem.W.subIn K (.ref CTooWide) (.ref CInvalidText) = some false)
    (sbInvalidText_InvalidText : PySem.W.subIn K (.ref CInvalidText) (.ref CInvalidText) = some true)
    (eCTrickError : PySem.W.subIn K (.ref CTrickError) (.type "BaseException") = some true)
    (tyTrickError : PySem.W.typeIn K (.ref CTrickError) = some (.type "type"))
    (hdTrickError : PySem.W.hasDictIn K CTrickError = true)
    (sbBadBase_TrickError : PySem.W.subIn K (.ref CBadBase) (.ref CTrickError) = some true)
    (sbBadTake_TrickError : PySem.W.subIn K (.ref CBadTake) (.ref CTrickError) = some true)
    (sbBadTimes_TrickError : PySem.W.subIn K (.ref CBadTimes) (.ref CTrickError) = some true)
    (sbBadTrick_TrickError : PySem.W.subIn K (.ref CBadTrick) (.ref CTrickError) = some true)
    (sbBadNumber_TrickError : PySem.W.subIn K (.ref CBadNumber) (.ref CTrickError) = some true)
    (sbBadDivisor_TrickError : PySem.W.subIn K (.ref CBadDivisor) (.ref CTrickError) = some true)
    (sbBadFigures_TrickError : PySem.W.subIn K (.ref CBadFigures) (.ref CTrickError) = some true)
    (sbBadWeights_TrickError : PySem.W.subIn K (.ref CBadWeights) (.ref CTrickError) = some true)
    (sbBadSum_TrickError : PySem.W.subIn K (.ref CBadSum) (.ref CTrickError) = some true)
    (sbBadRests_TrickError : PySem.W.subIn K (.ref CBadRests) (.ref CTrickError) = some true)
    (sbBadRest_TrickError : PySem.W.subIn K (.ref CBadRest) (.ref CTrickError) = some true)
    (sbBadTricks_TrickError : PySem.W.subIn K (.ref CBadTricks) (.ref CTrickError) = some true)
    (sbBadPairs_TrickError : PySem.W.subIn K (.ref CBadPairs) (.ref CTrickError) = some true)
    (sbTooWide_TrickError : PySem.W.subIn K (.ref CTooWide) (.ref CTrickError) = some true)
    (sbInvalidText_TrickError : PySem.W.subIn K (.ref CInvalidText) (.ref CTrickError) = some true)
    (sbBadBase_BadBase : PySem.W.subIn K (.ref CBadBase) (.ref CBadBase) = some true)
    (sbBadTake_BadBase : PySem.W.subIn K (.ref CBadTake) (.ref CBadBase) = some false)
    (sbBadTimes_BadBase : PySem.W.subIn K (.ref CBadTimes) (.ref CBadBase) = some false)
    (sbBadTrick_BadBase : PySem.W.subIn K (.ref CBadTrick) (.ref CBadBase) = some false)
    (sbBadNumber_BadBase : PySem.W.subIn K (.ref CBadNumber) (.ref CBadBase) = some false)
    (sbBadDivisor_BadBase : PySem.W.subIn K (.ref CBadDivisor) (.ref CBadBase) = some false)
    (sbBadFigures_BadBase : PySem.W.subIn K (.ref CBadFigures) (.ref CBadBase) = some false)
    (sbBadWeights_BadBase : PySem.W.subIn K (.ref CBadWeights) (.ref CBadBase) = some false)
    (sbBadSum_BadBase : PySem.W.subIn K (.ref CBadSum) (.ref CBadBase) = some false)
    (sbBadRests_BadBase : PySem.W.subIn K (.ref CBadRests) (.ref CBadBase) = some false)
    (sbBadRest_BadBase : PySem.W.subIn K (.ref CBadRest) (.ref CBadBase) = some false)
    (sbBadTricks_BadBase : PySem.W.subIn K (.ref CBadTricks) (.ref CBadBase) = some false)
    (sbBadPairs_BadBase : PySem.W.subIn K (.ref CBadPairs) (.ref CBadBase) = some false)
    (sbTooWide_BadBase : PySem.W.subIn K (.ref CTooWide) (.ref CBadBase) = some false)
    (sbInvalidText_BadBase : PySem.W.subIn K (.ref CInvalidText) (.ref CBadBase) = some false)
    (sbBadBase_BadTake : PySem.W.subIn K (.ref CBadBase) (.ref CBadTake) = some false)
    (sbBadTake_BadTake : PySem.W.subIn K (.ref CBadTake) (.ref CBadTake) = some true)
    (sbBadTimes_BadTake : PySem.W.subIn K (.ref CBadTimes) (.ref CBadTake) = some false)
    (sbBadTrick_BadTake : PySem.W.subIn K (.ref CBadTrick) (.ref CBadTake) = some false)
    (sbBadNumber_BadTake : PySem.W.subIn K (.ref CBadNumber) (.ref CBadTake) = some false)
    (sbBadDivisor_BadTake : PySem.W.subIn K (.ref CBadDivisor) (.ref CBadTake) = some false)
    (sbBadFigures_BadTake : PySem.W.subIn K (.ref CBadFigures) (.ref CBadTake) = some false)
    (sbBadWeights_BadTake : PySem.W.subIn K (.ref CBadWeights) (.ref CBadTake) = some false)
    (sbBadSum_BadTake : PySem.W.subIn K (.ref CBadSum) (.ref CBadTake) = some false)
    (sbBadRests_BadTake : PySem.W.subIn K (.ref CBadRests) (.ref CBadTake) = some false)
    (sbBadRest_BadTake : PySem.W.subIn K (.ref CBadRest) (.ref CBadTake) = some false)
    (sbBadTricks_BadTake : PySem.W.subIn K (.ref CBadTricks) (.ref CBadTake) = some false)
    (sbBadPairs_BadTake : PySem.W.subIn K (.ref CBadPairs) (.ref CBadTake) = some false)
    (sbTooWide_BadTake : PySem.W.subIn K (.ref CTooWide) (.ref CBadTake) = some false)
    (sbInvalidText_BadTake : PySem.W.subIn K (.ref CInvalidText) (.ref CBadTake) = some false)
    (sbBadBase_BadTimes : PySem.W.subIn K (.ref CBadBase) (.ref CBadTimes) = some false)
    (sbBadTake_BadTimes : PySem.W.subIn K (.ref CBadTake) (.ref CBadTimes) = some false)
    (sbBadTimes_BadTimes : PySem.W.subIn K (.ref CBadTimes) (.ref CBadTimes) = some true)
    (sbBadTrick_BadTimes : PySem.W.subIn K (.ref CBadTrick) (.ref CBadTimes) = some false)
    (sbBadNumber_BadTimes : PySem.W.subIn K (.ref CBadNumber) (.ref CBadTimes) = some false)
    (sbBadDivisor_BadTimes : PySem.W.subIn K (.ref CBadDivisor) (.ref CBadTimes) = some false)
    (sbBadFigures_BadTimes : PySem.W.subIn K (.ref CBadFigures) (.ref CBadTimes) = some false)
    (sbBadWeights_BadTimes : PySem.W.subIn K (.ref CBadWeights) (.ref CBadTimes) = some false)
    (sbBadSum_BadTimes : PySem.W.subIn K (.ref CBadSum) (.ref CBadTimes) = some false)
    (sbBadRests_BadTimes : PySem.W.subIn K (.ref CBadRests) (.ref CBadTimes) = some false)
    (sbBadRest_BadTimes : PySem.W.subIn K (.ref CBadRest) (.ref CBadTimes) = some false)
    (sbBadTricks_BadTimes : PySem.W.subIn K (.ref CBadTricks) (.ref CBadTimes) = some false)
    (sbBadPairs_BadTimes : PySem.W.subIn K (.ref CBadPairs) (.ref CBadTimes) = some false)
    (sbTooWide_BadTimes : PySem.W.subIn K (.ref CTooWide) (.ref CBadTimes) = some false)
    (sbInvalidText_BadTimes : PySem.W.subIn K (.ref CInvalidText) (.ref CBadTimes) = some false)
    (sbBadBase_BadTrick : PySem.W.subIn K (.ref CBadBase) (.ref CBadTrick) = some false)
    (sbBadTake_BadTrick : PySem.W.subIn K (.ref CBadTake) (.ref CBadTrick) = some false)
    (sbBadTimes_BadTrick : PySem.W.subIn K (.ref CBadTimes) (.ref CBadTrick) = some false)
    (sbBadTrick_BadTrick : PySem.W.subIn K (.ref CBadTrick) (.ref CBadTrick) = some true)
    (sbBadNumber_BadTrick : PySem.W.subIn K (.ref CBadNumber) (.ref CBadTrick) = some false)
    (sbBadDivisor_BadTrick : PySem.W.subIn K (.ref CBadDivisor) (.ref CBadTrick) = some false)
    (sbBadFigures_BadTrick : PySem.W.subIn K (.ref CBadFigures) (.ref CBadTrick) = some false)
    (sbBadWeights_BadTrick : PySem.W.subIn K (.ref CBadWeights) (.ref CBadTrick) = some false)
    (sbBadSum_BadTrick : PySem.W.subIn K (.ref CBadSum) (.ref CBadTrick) = some false)
    (sbBadRests_BadTrick : PySem.W.subIn K (.ref CBadRests) (.ref CBadTrick) = some false)
    (sbBadRest_BadTrick : PySem.W.subIn K (.ref CBadRest) (.ref CBadTrick) = some false)
    (sbBadTricks_BadTrick : PySem.W.subIn K (.ref CBadTricks) (.ref CBadTrick) = some false)
    (sbBadPairs_BadTrick : PySem.W.subIn K (.ref CBadPairs) (.ref CBadTrick) = some false)
    (sbTooWide_BadTrick : PySem.W.subIn K (.ref CTooWide) (.ref CBadTrick) = some false)
    (sbInvalidText_BadTrick : PySem.W.subIn K (.ref CInvalidText) (.ref CBadTrick) = some false)
    (sbBadBase_BadNumber : PySem.W.subIn K (.ref CBadBase) (.ref CBadNumber) = some false)
    (sbBadTake_BadNumber : PySem.W.subIn K (.ref CBadTake) (.ref CBadNumber) = some false)
    (sbBadTimes_BadNumber : PySem.W.subIn K (.ref CBadTimes) (.ref CBadNumber) = some false)
    (sbBadTrick_BadNumber : PySem.W.subIn K (.ref CBadTrick) (.ref CBadNumber) = some false)
    (sbBadNumber_BadNumber : PySem.W.subIn K (.ref CBadNumber) (.ref CBadNumber) = some true)
    (sbBadDivisor_BadNumber : PySem.W.subIn K (.ref CBadDivisor) (.ref CBadNumber) = some false)
    (sbBadFigures_BadNumber : PySem.W.subIn K (.ref CBadFigures) (.ref CBadNumber) = some false)
    (sbBadWeights_BadNumber : PySem.W.subIn K (.ref CBadWeights) (.ref CBadNumber) = some false)
    (sbBadSum_BadNumber : PySem.W.subIn K (.ref CBadSum) (.ref CBadNumber) = some false)
    (sbBadRests_BadNumber : PySem.W.subIn K (.ref CBadRests) (.ref CBadNumber) = some false)
    (sbBadRest_BadNumber : PySem.W.subIn K (.ref CBadRest) (.ref CBadNumber) = some false)
    (sbBadTricks_BadNumber : PySem.W.subIn K (.ref CBadTricks) (.ref CBadNumber) = some false)
    (sbBadPairs_BadNumber : PySem.W.subIn K (.ref CBadPairs) (.ref CBadNumber) = some false)
    (sbTooWide_BadNumber : PySem.W.subIn K (.ref CTooWide) (.ref CBadNumber) = some false)
    (sbInvalidText_BadNumber : PySem.W.subIn K (.ref CInvalidText) (.ref CBadNumber) = some false)
    (sbBadBase_BadDivisor : PySem.W.subIn K (.ref CBadBase) (.ref CBadDivisor) = some false)
    (sbBadTake_BadDivisor : PySem.W.subIn K (.ref CBadTake) (.ref CBadDivisor) = some false)
    (sbBadTimes_BadDivisor : PySem.W.subIn K (.ref CBadTimes) (.ref CBadDivisor) = some false)
    (sbBadTrick_BadDivisor : PySem.W.subIn K (.ref CBadTrick) (.ref CBadDivisor) = some false)
    (sbBadNumber_BadDivisor : PySem.W.subIn K (.ref CBadNumber) (.ref CBadDivisor) = some false)
    (sbBadDivisor_BadDivisor : PySem.W.subIn K (.ref CBadDivisor) (.ref CBadDivisor) = some true)
    (sbBadFigures_BadDivisor : PySem.W.subIn K (.ref CBadFigures) (.ref CBadDivisor) = some false)
    (sbBadWeights_BadDivisor : PySem.W.subIn K (.ref CBadWeights) (.ref CBadDivisor) = some false)
    (sbBadSum_BadDivisor : PySem.W.subIn K (.ref CBadSum) (.ref CBadDivisor) = some false)
    (sbBadRests_BadDivisor : PySem.W.subIn K (.ref CBadRests) (.ref CBadDivisor) = some false)
    (sbBadRest_BadDivisor : PySem.W.subIn K (.ref CBadRest) (.ref CBadDivisor) = some false)
    (sbBadTricks_BadDivisor : PySem.W.subIn K (.ref CBadTricks) (.ref CBadDivisor) = some false)
    (sbBadPairs_BadDivisor : PySem.W.subIn K (.ref CBadPairs) (.ref CBadDivisor) = some false)
    (sbTooWide_BadDivisor : PySem.W.subIn K (.ref CTooWide) (.ref CBadDivisor) = some false)
    (sbInvalidText_BadDivisor : PySem.W.subIn K (.ref CInvalidText) (.ref CBadDivisor) = some false)
    (sbBadBase_BadFigures : PySem.W.subIn K (.ref CBadBase) (.ref CBadFigures) = some false)
    (sbBadTake_BadFigures : PySem.W.subIn K (.ref CBadTake) (.ref CBadFigures) = some false)
    (sbBadTimes_BadFigures : PySem.W.subIn K (.ref CBadTimes) (.ref CBadFigures) = some false)
    (sbBadTrick_BadFigures : PySem.W.subIn K (.ref CBadTrick) (.ref CBadFigures) = some false)
    (sbBadNumber_BadFigures : PySem.W.subIn K (.ref CBadNumber) (.ref CBadFigures) = some false)
    (sbBadDivisor_BadFigures : PySem.W.subIn K (.ref CBadDivisor) (.ref CBadFigures) = some false)
    (sbBadFigures_BadFigures : PySem.W.subIn K (.ref CBadFigures) (.ref CBadFigures) = some true)
    (sbBadWeights_BadFigures : PySem.W.subIn K (.ref CBadWeights) (.ref CBadFigures) = some false)
    (sbBadSum_BadFigures : PySem.W.subIn K (.ref CBadSum) (.ref CBadFigures) = some false)
    (sbBadRests_BadFigures : PySem.W.subIn K (.ref CBadRests) (.ref CBadFigures) = some false)
    (sbBadRest_BadFigures : PySem.W.subIn K (.ref CBadRest) (.ref CBadFigures) = some false)
    (sbBadTricks_BadFigures : PySem.W.subIn K (.ref CBadTricks) (.ref CBadFigures) = some false)
    (sbBadPairs_BadFigures : PySem.W.subIn K (.ref CBadPairs) (.ref CBadFigures) = some false)
    (sbTooWide_BadFigures : PySem.W.subIn K (.ref CTooWide) (.ref CBadFigures) = some false)
    (sbInvalidText_BadFigures : PySem.W.subIn K (.ref CInvalidText) (.ref CBadFigures) = some false)
    (sbBadBase_BadWeights : PySem.W.subIn K (.ref CBadBase) (.ref CBadWeights) = some false)
    (sbBadTake_BadWeights : PySem.W.subIn K (.ref CBadTake) (.ref CBadWeights) = some false)
    (sbBadTimes_BadWeights : PySem.W.subIn K (.ref CBadTimes) (.ref CBadWeights) = some false)
    (sbBadTrick_BadWeights : PySem.W.subIn K (.ref CBadTrick) (.ref CBadWeights) = some false)
    (sbBadNumber_BadWeights : PySem.W.subIn K (.ref CBadNumber) (.ref CBadWeights) = some false)
    (sbBadDivisor_BadWeights : PySem.W.subIn K (.ref CBadDivisor) (.ref CBadWeights) = some false)
    (sbBadFigures_BadWeights : PySem.W.subIn K (.ref CBadFigures) (.ref CBadWeights) = some false)
    (sbBadWeights_BadWeights : PySem.W.subIn K (.ref CBadWeights) (.ref CBadWeights) = some true)
    (sbBadSum_BadWeights : PySem.W.subIn K (.ref CBadSum) (.ref CBadWeights) = some false)
    (sbBadRests_BadWeights : PySem.W.subIn K (.ref CBadRests) (.ref CBadWeights) = some false)
    (sbBadRest_BadWeights : PySem.W.subIn K (.ref CBadRest) (.ref CBadWeights) = some false)
    (sbBadTricks_BadWeights : PySem.W.subIn K (.ref CBadTricks) (.ref CBadWeights) = some false)
    (sbBadPairs_BadWeights : PySem.W.subIn K (.ref CBadPairs) (.ref CBadWeights) = some false)
    (sbTooWide_BadWeights : PySem.W.subIn K (.ref CTooWide) (.ref CBadWeights) = some false)
    (sbInvalidText_BadWeights : PySem.W.subIn K (.ref CInvalidText) (.ref CBadWeights) = some false)
    (aCTrick : PySem.W.nsIn K mainGlobals "Trick" = some (some (.ref CTrick)))
    (pgTrick : PySem.W.plainGet K CTrick Str.empty = true)
    (hdTrick : PySem.W.hasDictIn K CTrick = true)
    (poTrick : PySem.W.plainOver K CTrick = true)
    (saTrick : PySem.W.findIn K (.ref CTrick) "__setattr__" = some (some (.builtin "object.__setattr__")))
    (mkTrick : PySem.W.makesIn K CTrick = true)
    (kcTrick : PySem.W.keepIn K (.ref CTrick) = true)
    (icTrick : PySem.W.findIn K (.ref CTrick) "__class__" = some (some (.builtin "object.__class__")))
    (tyTrick : PySem.W.typeIn K (.ref CTrick) = some (.type "type"))
    (slTrick : PySem.W.subIn K (.ref CTrick) (.type "list") = some false)
    (stTrick : PySem.W.subIn K (.ref CTrick) (.type "tuple") = some false)
    (ilTrick : PySem.W.isClsIn K CTrick = true)
    (mcTrick : PySem.W.mroIn K CTrick (.type "object") = some true)
    (nfTrick_basis : PySem.W.findIn K (.ref CTrick) "basis" = some none)
    (nfTrick_many : PySem.W.findIn K (.ref CTrick) "many" = some none)
    (nfTrick_factor : PySem.W.findIn K (.ref CTrick) "factor" = some none)
    (nfTrick_block : PySem.W.findIn K (.ref CTrick) "block" = some none)
    (aCSum : PySem.W.nsIn K mainGlobals "Sum" = some (some (.ref CSum)))
    (pgSum : PySem.W.plainGet K CSum Str.empty = true)
    (hdSum : PySem.W.hasDictIn K CSum = true)
    (poSum : PySem.W.plainOver K CSum = true)
    (saSum : PySem.W.findIn K (.ref CSum) "__setattr__" = some (some (.builtin "object.__setattr__")))
    (mkSum : PySem.W.makesIn K CSum = true)
    (kcSum : PySem.W.keepIn K (.ref CSum) = true)
    (icSum : PySem.W.findIn K (.ref CSum) "__class__" = some (some (.builtin "object.__class__")))
    (tySum : PySem.W.typeIn K (.ref CSum) = some (.type "type"))
    (slSum : PySem.W.subIn K (.ref CSum) (.type "list") = some false)
    (stSum : PySem.W.subIn K (.ref CSum) (.type "tuple") = some false)
    (ilSum : PySem.W.isClsIn K CSum = true)
    (mcSum : PySem.W.mroIn K CSum (.type "object") = some true)
    (nfSum_basis : PySem.W.findIn K (.ref CSum) "basis" = some none)
    (nfSum_many : PySem.W.findIn K (.ref CSum) "many" = some none)
    (nfSum_begun : PySem.W.findIn K (.ref CSum) "begun" = some none)
    (nfSum_again : PySem.W.findIn K (.ref CSum) "again" = some none)
    (nfSum_block : PySem.W.findIn K (.ref CSum) "block" = some none)
    (snA : PySem.W.specialIn K (.builtin "object.__class__") "__get__" = some (some (.builtin "getset_descriptor.__get__")))
    (tkA : PySem.W.takesIn K (.builtin "object.__class__") = some true)
    (v_LEAST_BASE : PySem.W.nsIn K mainGlobals "LEAST_BASE" = some (some (.int (2) tk_LEAST_BASE)))
    (v_MOST_BASE : PySem.W.nsIn K mainGlobals "MOST_BASE" = some (some (.int (16) tk_MOST_BASE)))
    (v_MOST_NUMBER : PySem.W.nsIn K mainGlobals "MOST_NUMBER" = some (some (.int (10000000000000000000000000000000000000000) tk_MOST_NUMBER)))
    (v_MOST_FIGURES : PySem.W.nsIn K mainGlobals "MOST_FIGURES" = some (some (.int (150) tk_MOST_FIGURES)))
    (v_MOST_DIVISOR : PySem.W.nsIn K mainGlobals "MOST_DIVISOR" = some (some (.int (100) tk_MOST_DIVISOR)))
    (v_MOST_TAKE : PySem.W.nsIn K mainGlobals "MOST_TAKE" = some (some (.int (2) tk_MOST_TAKE)))
    (v_MOST_TIMES : PySem.W.nsIn K mainGlobals "MOST_TIMES" = some (some (.int (100) tk_MOST_TIMES)))
    (v_MOST_TRICKS : PySem.W.nsIn K mainGlobals "MOST_TRICKS" = some (some (.int (4) tk_MOST_TRICKS)))
    (v_MOST_WIDE : PySem.W.nsIn K mainGlobals "MOST_WIDE" = some (some (.int (300) tk_MOST_WIDE)))
    (v_MOST_CHAIN_DIVISOR : PySem.W.nsIn K mainGlobals "MOST_CHAIN_DIVISOR" = some (some (.int (30) tk_MOST_CHAIN_DIVISOR)))
    (v_MOST_RESTS : PySem.W.nsIn K mainGlobals "MOST_RESTS" = some (some (.int (20) tk_MOST_RESTS)))
    (v_MOST_WEIGHT : PySem.W.nsIn K mainGlobals "MOST_WEIGHT" = some (some (.int (1000000) tk_MOST_WEIGHT)))
    (v_MOST_WEIGHTS : PySem.W.nsIn K mainGlobals "MOST_WEIGHTS" = some (some (.int (12) tk_MOST_WEIGHTS)))
    (v_MOST_PAIRS : PySem.W.nsIn K mainGlobals "MOST_PAIRS" = some (some (.int (10) tk_MOST_PAIRS)))
    (z_isinstance : PySem.W.nsIn K mainGlobals "isinstance" = some none)
    (z_int : PySem.W.nsIn K mainGlobals "int" = some none)
    (z_bool : PySem.W.nsIn K mainGlobals "bool" = some none)
    (z_enumerate : PySem.W.nsIn K mainGlobals "enumerate" = some none)
    (z_tuple : PySem.W.nsIn K mainGlobals "tuple" = some none)
    (z_len : PySem.W.nsIn K mainGlobals "len" = some none)
    (z_range : PySem.W.nsIn K mainGlobals "range" = some none)
    (z_list : PySem.W.nsIn K mainGlobals "list" = some none)
    (z_set : PySem.W.nsIn K mainGlobals "set" = some none)
    (z_str : PySem.W.nsIn K mainGlobals "str" = some none)
    (z_all : PySem.W.nsIn K mainGlobals "all" = some none)
    (z_min : PySem.W.nsIn K mainGlobals "min" = some none)
    : ∃ fd : FuncData, (∀ (s : Shared) (v : Value), BindsTo s fd ⟨[v], []⟩ [("_law_script", v)]) ∧ ∀ base : Heap, K.In base → base.Ns mainGlobals mg → FnOk l.prog w K mg base CX0 9 fa fd ["_law_script"] (sp_law K) := by
  have e := hfa.symm.trans (PySem.W.mg_of X G a48)
  cases e
  have F0 := fun_mk (st := s_BadBase_init) l0 c0 k0
  have b0 := F0.binds (ps := p_BadBase_init) fun _ _ _ _ _ _ us hl => match us, hl with | [_], _ => rfl
  have F1 := fun_mk (st := s_BadTake_init) l1 c1 k1
  have b1 := F1.binds (ps := p_BadTake_init) fun _ _ _ _ _ _ us hl => match us, hl with | [_], _ => rfl
  have F2 := fun_mk (st := s_BadTimes_init) l2 c2 k2
  have b2 := F2.binds (ps := p_BadTimes_init) fun _ _ _ _ _ _ us hl => match us, hl with | [_], _ => rfl
  have F3 := fun_mk (st := s_BadTrick_init) l3 c3 k3
  have b3 := F3.binds (ps := p_BadTrick_init) fun _ _ _ _ _ _ us hl => match us, hl with | [_], _ => rfl
  have F4 := fun_mk (st := s_BadNumber_init) l4 c4 k4
  have b4 := F4.binds (ps := p_BadNumber_init) fun _ _ _ _ _ _ us hl => match us, hl with | [_, _], _ => rfl
  have F5 := fun_mk (st := s_BadDivisor_init) l5 c5 k5
  have b5 := F5.binds (ps := p_BadDivisor_init) fun _ _ _ _ _ _ us hl => match us, hl with | [_], _ => rfl
  have F6 := fun_mk (st := s_BadFigures_init) l6 c6 k6
  have b6 := F6.binds (ps := p_BadFigures_init) fun _ _ _ _ _ _ us hl => match us, hl with | [_, _], _ => rfl
  have F7 := fun_mk (st := s_BadWeights_init) l7 c7 k7
  have b7 := F7.binds (ps := p_BadWeights_init) fun _ _ _ _ _ _ us hl => match us, hl with | [_, _], _ => rfl
  have F8 := fun_mk (st := s_BadSum_init) l8 c8 k8
  have b8 := F8.binds (ps := p_BadSum_init) fun _ _ _ _ _ _ us hl => match us, hl with | [_], _ => rfl
  have F9 := fun_mk (st := s_BadRests_init) l9 c9 k9
  have b9 := F9.binds (ps := p_BadRests_init) fun _ _ _ _ _ _ us hl => match us, hl with | [_, _], _ => rfl
  have F10 := fun_mk (st := s_BadRest_init) l10 c10 k10
  have b10 := F10.binds (ps := p_BadRest_init) fun _ _ _ _ _ _ us hl => match us, hl with | [_], _ => rfl
  have F11 := fun_mk (st := s_BadTricks_init) l11 c11 k11
  have b11 := F11.binds (ps := p_BadTricks_init) fun _ _ _ _ _ _ us hl => match us, hl with | [_, _], _ => rfl
  have F12 := fun_mk (st := s_BadPairs_init) l12 c12 k12
  have b12 := F12.binds (ps := p_BadPairs_init) fun _ _ _ _ _ _ us hl => match us, hl with | [_, _], _ => rfl
  have F13 := fun_mk (st := s_TooWide_init) l13 c13 k13
  have b13 := F13.binds (ps := p_TooWide_init) fun _ _ _ _ _ _ us hl => match us, hl with | [_, _], _ => rfl
  have F14 := fun_mk (st := s_InvalidText_init) l14 c14 k14
  have b14 := F14.binds (ps := p_InvalidText_init) fun _ _ _ _ _ _ us hl => match us, hl with | [_, _], _ => rfl
  have F15 := fun_mk (st := s_is_from) l15 c15 k15
  have b15 := F15.binds (ps := p_is_from) fun _ _ _ _ _ _ us hl => match us, hl with | [_, _, _], _ => rfl
  have F16 := fun_mk (st := s_need_base) l16 c16 k16
  have b16 := F16.binds (ps := p_need_base) fun _ _ _ _ _ _ us hl => match us, hl with | [_], _ => rfl
  have F17 := fun_mk (st := s_need_number) l17 c17 k17
  have b17 := F17.binds (ps := p_need_number) fun _ _ _ _ _ _ us hl => match us, hl with | [_], _ => rfl
  have F18 := fun_mk (st := s_need_divisor) l18 c18 k18
  have b18 := F18.binds (ps := p_need_divisor) fun _ _ _ _ _ _ us hl => match us, hl with | [_, _], _ => rfl
  have F19 := fun_mk (st := s_figures) l19 c19 k19
  have b19 := F19.binds (ps := p_figures) fun _ _ _ _ _ _ us hl => match us, hl with | [_, _], _ => rfl
  have F20 := fun_mk (st := s_number) l20 c20 k20
  have b20 := F20.binds (ps := p_number) fun _ _ _ _ _ _ us hl => match us, hl with | [_, _], _ => rfl
  have F21 := fun_mk (st := s_power) l21 c21 k21
  have b21 := F21.binds (ps := p_power) fun _ _ _ _ _ _ us hl => match us, hl with | [_, _], _ => rfl
  have F22 := fun_mk (st := s_Trick_init) l22 c22 k22
  have b22 := F22.binds (ps := p_Trick_init) fun _ _ _ _ _ _ us hl => match us, hl with | [_, _, _, _], _ => rfl
  have F23 := fun_mk (st := s_need_trick) l23 c23 k23
  have b23 := F23.binds (ps := p_need_trick) fun _ _ _ _ _ _ us hl => match us, hl with | [_], _ => rfl
  have F24 := fun_mk (st := s_done) l24 c24 k24
  have b24 := F24.binds (ps := p_done) fun _ _ _ _ _ _ us hl => match us, hl with | [_, _], _ => rfl
  have F25 := fun_mk (st := s_tells) l25 c25 k25
  have b25 := F25.binds (ps := p_tells) fun _ _ _ _ _ _ us hl => match us, hl with | [_, _], _ => rfl
  have F26 := fun_mk (st := s_need_tricks) l26 c26 k26
  have b26 := F26.binds (ps := p_need_tricks) fun _ _ _ _ _ _ us hl => match us, hl with | [_], _ => rfl
  have F27 := fun_mk (st := s_chained) l27 c27 k27
  have b27 := F27.binds (ps := p_chained) fun _ _ _ _ _ _ us hl => match us, hl with | [_, _], _ => rfl
  have F28 := fun_mk (st := s_wide_of) l28 c28 k28
  have b28 := F28.binds (ps := p_wide_of) fun _ _ _ _ _ _ us hl => match us, hl with | [_], _ => rfl
  have F29 := fun_mk (st := s_need_chain) l29 c29 k29
  have b29 := F29.binds (ps := p_need_chain) fun _ _ _ _ _ _ us hl => match us, hl with | [_, _], _ => rfl
  have F30 := fun_mk (st := s_chain_tells) l30 c30 k30
  have b30 := F30.binds (ps := p_chain_tells) fun _ _ _ _ _ _ us hl => match us, hl with | [_, _], _ => rfl
  have F31 := fun_mk (st := s_need_labels) l31 c31 k31
  have b31 := F31.binds (ps := p_need_labels) fun _ _ _ _ _ _ us hl => match us, hl with | [_], _ => rfl
  have F32 := fun_mk (st := s_front_states) l32 c32 k32
  have b32 := F32.binds (ps := p_front_states) fun _ _ _ _ _ _ us hl => match us, hl with | [_, _], _ => rfl
  have F33 := fun_mk (st := s_front_word) l33 c33 k33
  have b33 := F33.binds (ps := p_front_word) fun _ _ _ _ _ _ us hl => match us, hl with | [_, _, _, _], _ => rfl
  have F34 := fun_mk (st := s_need_weights) l34 c34 k34
  have b34 := F34.binds (ps := p_need_weights) fun _ _ _ _ _ _ us hl => match us, hl with | [_, _], _ => rfl
  have F35 := fun_mk (st := s_Sum_init) l35 c35 k35
  have b35 := F35.binds (ps := p_Sum_init) fun _ _ _ _ _ _ us hl => match us, hl with | [_, _, _, _, _], _ => rfl
  have F36 := fun_mk (st := s_need_sum) l36 c36 k36
  have b36 := F36.binds (ps := p_need_sum) fun _ _ _ _ _ _ us hl => match us, hl with | [_], _ => rfl
  have F37 := fun_mk (st := s_total) l37 c37 k37
  have b37 := F37.binds (ps := p_total) fun _ _ _ _ _ _ us hl => match us, hl with | [_, _], _ => rfl
  have F38 := fun_mk (st := s_number_in) l38 c38 k38
  have b38 := F38.binds (ps := p_number_in) fun _ _ _ _ _ _ us hl => match us, hl with | [_, _, _, _], _ => rfl
  have F39 := fun_mk (st := s_need_word) l39 c39 k39
  have b39 := F39.binds (ps := p_need_word) fun _ _ _ _ _ _ us hl => match us, hl with | [_, _, _], _ => rfl
  have F40 := fun_mk (st := s_read) l40 c40 k40
  have b40 := F40.binds (ps := p_read) fun _ _ _ _ _ _ us hl => match us, hl with | [_], _ => rfl
  have F41 := fun_mk (st := s_need_pairs) l41 c41 k41
  have b41 := F41.binds (ps := p_need_pairs) fun _ _ _ _ _ _ us hl => match us, hl with | [_], _ => rfl
  have F42 := fun_mk (st := s_fitting) l42 c42 k42
  have b42 := F42.binds (ps := p_fitting) fun _ _ _ _ _ _ us hl => match us, hl with | [_], _ => rfl
  have F43 := fun_mk (st := s_law_taken) l43 c43 k43
  have b43 := F43.binds (ps := p_law_taken) fun _ _ _ _ _ _ us hl => match us, hl with | [_, _], _ => rfl
  have F44 := fun_mk (st := s_law_call) l44 c44 k44
  have b44 := F44.binds (ps := p_law_call) fun _ _ _ _ _ _ us hl => match us, hl with | [_], _ => rfl
  have F45 := fun_mk (st := s_law_early) l45 c45 k45
  have b45 := F45.binds (ps := p_law_early) fun _ _ _ _ _ _ us hl => match us, hl with | [_, _], _ => rfl
  have F46 := fun_mk (st := s_law_first) l46 c46 k46
  have b46 := F46.binds (ps := p_law_first) fun _ _ _ _ _ _ us hl => match us, hl with | [_], _ => rfl
  have F47 := fun_mk (st := s_law_second) l47 c47 k47
  have b47 := F47.binds (ps := p_law_second) fun _ _ _ _ _ _ us hl => match us, hl with | [_], _ => rfl
  have F48 := fun_mk (st := s_law) l48 c48 k48
  have b48 := F48.binds (ps := p_law) fun _ _ _ _ _ _ us hl => match us, hl with | [_], _ => rfl
  have T : Txt K mg ⟨f0, _, f1, _, f2, _, f3, _, f4, _, f5, _, f6, _, f7, _, f8, _, f9, _, f10, _, f11, _, f12, _, f13, _, f14, _, f15, _, f16, _, f17, _, f18, _, f19, _, f20, _, f21, _, f22, _, f23, _, f24, _, f25, _, f26, _, f27, _, f28, _, f29, _, f30, _, f31, _, f32, _, f33, _, f34, _, f35, _, f36, _, f37, _, f38, _, f39, _, f40, _, f41, _, f42, _, f43, _, f44, _, f45, _, f46, _, f47, _, fa, _, CTrick, CSum, CTrickError, CBadBase, CBadTake, CBadTimes, CBadTrick, CBadNumber, CBadDivisor, CBadFigures, CBadWeights, CBadSum, CBadRests, CBadRest, CBadTricks, CBadPairs, CTooWide, CInvalidText⟩ :=
    { F_BadBase_init := F0,
      b_BadBase_init := b0,
      F_BadTake_init := F1,
      b_BadTake_init := b1,
      F_BadTimes_init := F2,
      b_BadTimes_init := b2,
      F_BadTrick_init := F3,
      b_BadTrick_init := b3,
      F_BadNumber_init := F4,
      b_BadNumber_init := b4,
      F_BadDivisor_init := F5,
      b_BadDivisor_init := b5,
      F_BadFigures_init := F6,
      b_BadFigures_init := b6,
      F_BadWeights_init := F7,
      b_BadWeights_init := b7,
      F_BadSum_init := F8,
      b_BadSum_init := b8,
      F_BadRests_init := F9,
      b_BadRests_init := b9,
      F_BadRest_init := F10,
      b_BadRest_init := b10,
      F_BadTricks_init := F11,
      b_BadTricks_init := b11,
      F_BadPairs_init := F12,
      b_BadPairs_init := b12,
      F_TooWide_init := F13,
      b_TooWide_init := b13,
      F_InvalidText_init := F14,
      b_InvalidText_init := b14,
      F_is_from := F15,
      b_is_from := b15,
      g_is_from := PySem.W.mg_of X G a15,
      F_need_base := F16,
      b_need_base := b16,
      g_need_base := PySem.W.mg_of X G a16,
      F_need_number := F17,
      b_need_number := b17,
      g_need_number := PySem.W.mg_of X G a17,
      F_need_divisor := F18,
      b_need_divisor := b18,
      g_need_divisor := PySem.W.mg_of X G a18,
      F_figures := F19,
      b_figures := b19,
      g_figures := PySem.W.mg_of X G a19,
      F_number := F20,
      b_number := b20,
      g_number := PySem.W.mg_of X G a20,
      F_power := F21,
      b_power := b21,
      g_power := PySem.W.mg_of X G a21,
      F_Trick_init := F22,
      b_Trick_init := b22,
      F_need_trick := F23,
      b_need_trick := b23,
      g_need_trick := PySem.W.mg_of X G a23,
      F_done := F24,
      b_done := b24,
      g_done := PySem.W.mg_of X G a24,
      F_tells := F25,
      b_tells := b25,
      g_tells := PySem.W.mg_of X G a25,
      F_need_tricks := F26,
      b_need_tricks := b26,
      g_need_tricks := PySem.W.mg_of X G a26,
      F_chained := F27,
      b_chained := b27,
      g_chained := PySem.W.mg_of X G a27,
      F_wide_of := F28,
      b_wide_of := b28,
      g_wide_of := PySem.W.mg_of X G a28,
      F_need_chain := F29,
      b_need_chain := b29,
      g_need_chain := PySem.W.mg_of X G a29,
      F_chain_tells := F30,
      b_chain_tells := b30,
      g_chain_tells := PySem.W.mg_of X G a30,
      F_need_labels := F31,
      b_need_labels := b31,
      g_need_labels := PySem.W.mg_of X G a31,
      F_front_states := F32,
      b_front_states := b32,
      g_front_states := PySem.W.mg_of X G a32,
      F_front_word := F33,
      b_front_word := b33,
      g_front_word := PySem.W.mg_of X G a33,
      F_need_weights := F34,
      b_need_weights := b34,
      g_need_weights := PySem.W.mg_of X G a34,
      F_Sum_init := F35,
      b_Sum_init := b35,
      F_need_sum := F36,
      b_need_sum := b36,
      g_need_sum := PySem.W.mg_of X G a36,
      F_total := F37,
      b_total := b37,
      g_total := PySem.W.mg_of X G a37,
      F_number_in := F38,
      b_number_in := b38,
      g_number_in := PySem.W.mg_of X G a38,
      F_need_word := F39,
      b_need_word := b39,
      g_need_word := PySem.W.mg_of X G a39,
      F_read := F40,
      b_read := b40,
      g_read := PySem.W.mg_of X G a40,
      F_need_pairs := F41,
      b_need_pairs := b41,
      g_need_pairs := PySem.W.mg_of X G a41,
      F_fitting := F42,
      b_fitting := b42,
      g_fitting := PySem.W.mg_of X G a42,
      F_law_taken := F43,
      b_law_taken := b43,
      g_law_taken := PySem.W.mg_of X G a43,
      F_law_call := F44,
      b_law_call := b44,
      g_law_call := PySem.W.mg_of X G a44,
      F_law_early := F45,
      b_law_early := b45,
      g_law_early := PySem.W.mg_of X G a45,
      F_law_first := F46,
      b_law_first := b46,
      g_law_first := PySem.W.mg_of X G a46,
      F_law_second := F47,
      b_law_second := b47,
      g_law_second := PySem.W.mg_of X G a47,
      F_law := F48,
      b_law := b48,
      g_law := PySem.W.mg_of X G a48,
      g_Trick := PySem.W.mg_of X G aCTrick,
      cl_Trick := ⟨pgTrick, hdTrick, poTrick, saTrick⟩,
      is_Trick := ⟨⟨pgTrick, hdTrick, poTrick, saTrick⟩, icTrick, snA, tkA, mcTrick, if_pos (beq_self_eq_true _)⟩,
      sl_Trick := slTrick,
      st_Trick := stTrick,
      ty_Trick := by rw [show (PySem.W.clsIn K CTrick).isSome = true from ilTrick, tyTrick]; rfl,
      M_Trick := ⟨mkTrick, a22, i22, kcTrick⟩,
      nf_Trick_basis := nfTrick_basis,
      nf_Trick_many := nfTrick_many,
      nf_Trick_factor := nfTrick_factor,
      nf_Trick_block := nfTrick_block,
      g_Sum := PySem.W.mg_of X G aCSum,
      cl_Sum := ⟨pgSum, hdSum, poSum, saSum⟩,
      is_Sum := ⟨⟨pgSum, hdSum, poSum, saSum⟩, icSum, snA, tkA, mcSum, if_pos (beq_self_eq_true _)⟩,
      sl_Sum := slSum,
      st_Sum := stSum,
      ty_Sum := by rw [show (PySem.W.clsIn K CSum).isSome = true from ilSum, tySum]; rfl,
      M_Sum := ⟨mkSum, a35, i35, kcSum⟩,
      nf_Sum_basis := nfSum_basis,
      nf_Sum_many := nfSum_many,
      nf_Sum_begun := nfSum_begun,
      nf_Sum_again := nfSum_again,
      nf_Sum_block := nfSum_block,
      g_TrickError := PySem.W.mg_of X G aCTrickError,
      g_BadBase := PySem.W.mg_of X G aCBadBase,
      g_BadTake := PySem.W.mg_of X G aCBadTake,
      g_BadTimes := PySem.W.mg_of X G aCBadTimes,
      g_BadTrick := PySem.W.mg_of X G aCBadTrick,
      g_BadNumber := PySem.W.mg_of X G aCBadNumber,
      g_BadDivisor := PySem.W.mg_of X G aCBadDivisor,
      g_BadFigures := PySem.W.mg_of X G aCBadFigures,
      g_BadWeights := PySem.W.mg_of X G aCBadWeights,
      g_BadSum := PySem.W.mg_of X G aCBadSum,
      g_BadRests := PySem.W.mg_of X G aCBadRests,
      g_BadRest := PySem.W.mg_of X G aCBadRest,
      g_BadTricks := PySem.W.mg_of X G aCBadTricks,
      g_BadPairs := PySem.W.mg_of X G aCBadPairs,
      g_TooWide := PySem.W.mg_of X G aCTooWide,
      g_InvalidText := PySem.W.mg_of X G aCInvalidText,
      oi_TrickError := ⟨rdTrickError, gtTrickError, fcTrickError⟩,
      ox_BadBase := ⟨⟨_, _, _, _, _, _, _, _, _, _, _, _, _, _, _, xLBadBase, (show PySem.HandSPX.refsVE [.type "ValueError", .type "Exception", .type "BaseException", .type "object"] = true from by decide +kernel)⟩, saBadBase, eCBadBase, tyBadBase, kcBadBase⟩,
      xf_BadBase := ⟨gaBadBase, ggBadBase, eCBadBase, hdBadBase⟩,
      ix_BadBase := a0,
      tx_BadBase := beq_iff_eq.mp i0,
      em_BadBase_BadSum := PySem.W.exm_ref eCBadSum hdBadSum tyBadSum sbBadBase_BadSum,
      em_BadBase_BadRests := PySem.W.exm_ref eCBadRests hdBadRests tyBadRests sbBadBase_BadRests,
      em_BadBase_BadRest := PySem.W.exm_ref eCBadRest hdBadRest tyBadRest sbBadBase_BadRest,
      em_BadBase_BadTricks := PySem.W.exm_ref eCBadTricks hdBadTricks tyBadTricks sbBadBase_BadTricks,
      em_BadBase_BadPairs := PySem.W.exm_ref eCBadPairs hdBadPairs tyBadPairs sbBadBase_BadPairs,
      em_BadBase_TooWide := PySem.W.exm_ref eCTooWide hdTooWide tyTooWide sbBadBase_TooWide,
      em_BadBase_InvalidText := PySem.W.exm_ref eCInvalidText hdInvalidText tyInvalidText sbBadBase_InvalidText,
      em_BadBase_TrickError := PySem.W.exm_ref eCTrickError hdTrickError tyTrickError sbBadBase_TrickError,
      em_BadBase_BadBase := PySem.W.exm_ref eCBadBase hdBadBase tyBadBase sbBadBase_BadBase,
      em_BadBase_BadTake := PySem.W.exm_ref eCBadTake hdBadTake tyBadTake sbBadBase_BadTake,
      em_BadBase_BadTimes := PySem.W.exm_ref eCBadTimes hdBadTimes tyBadTimes sbBadBase_BadTimes,
      em_BadBase_BadTrick := PySem.W.exm_ref eCBadTrick hdBadTrick tyBadTrick sbBadBase_BadTrick,
      em_BadBase_BadNumber := PySem.W.exm_ref eCBadNumber hdBadNumber tyBadNumber sbBadBase_BadNumber,
      em_BadBase_BadDivisor := PySem.W.exm_ref eCBadDivisor hdBadDivisor tyBadDivisor sbBadBase_BadDivisor,
      em_BadBase_BadFigures := PySem.W.exm_ref eCBadFigures hdBadFigures tyBadFigures sbBadBase_BadFigures,
      em_BadBase_BadWeights := PySem.W.exm_ref eCBadWeights hdBadWeights tyBadWeights sbBadBase_BadWeights,
      ox_BadTake := ⟨⟨_, _, _, _, _, _, _, _, _, _, _, _, _, _, _, xLBadTake, (show PySem.HandSPX.refsVE [.type "ValueError", .type "Exception", .type "BaseException", .type "object"] = true from by decide +kernel)⟩, saBadTake, eCBadTake, tyBadTake, kcBadTake⟩,
      xf_BadTake := ⟨gaBadTake, ggBadTake, eCBadTake, hdBadTake⟩,
      ix_BadTake := a1,
      tx_BadTake := beq_iff_eq.mp i1,
      em_BadTake_BadSum := PySem.W.exm_ref eCBadSum hdBadSum tyBadSum sbBadTake_BadSum,
      em_BadTake_BadRests := PySem.W.exm_ref eCBadRests hdBadRests tyBadRests sbBadTake_BadRests,
      em_BadTake_BadRest := PySem.W.exm_ref eCBadRest hdBadRest tyBadRest sbBadTake_BadRest,
      em_BadTake_BadTricks := PySem.W.exm_ref eCBadTricks hdBadTricks tyBadTricks sbBadTake_BadTricks,
      em_BadTake_BadPairs := PySem.W.exm_ref eCBadPairs hdBadPairs tyBadPairs sbBadTake_BadPairs,
      em_BadTake_TooWide := PySem.W.exm_ref eCTooWide hdTooWide tyTooWide sbBadTake_TooWide,
      em_BadTake_InvalidText := PySem.W.exm_ref eCInvalidText hdInvalidText tyInvalidText sbBadTake_InvalidText,
      em_BadTake_TrickError := PySem.W.exm_ref eCTrickError hdTrickError tyTrickError sbBadTake_TrickError,
      em_BadTake_BadBase := PySem.W.exm_ref eCBadBase hdBadBase tyBadBase sbBadTake_BadBase,
      em_BadTake_BadTake := PySem.W.exm_ref eCBadTake hdBadTake tyBadTake sbBadTake_BadTake,
      em_BadTake_BadTimes := PySem.W.exm_ref eCBadTimes hdBadTimes tyBadTimes sbBadTake_BadTimes,
      em_BadTake_BadTrick := PySem.W.exm_ref eCBadTrick hdBadTrick tyBadTrick sbBadTake_BadTrick,
      em_BadTake_BadNumber := PySem.W.exm_ref eCBadNumber hdBadNumber tyBadNumber sbBadTake_BadNumber,
      em_BadTake_BadDivisor := PySem.W.exm_ref eCBadDivisor hdBadDivisor tyBadDivisor sbBadTake_BadDivisor,
      em_BadTake_BadFigures := PySem.W.exm_ref eCBadFigures hdBadFigures tyBadFigures sbBadTake_BadFigures,
      em_BadTake_BadWeights := PySem.W.exm_ref eCBadWeights hdBadWeights tyBadWeights sbBadTake_BadWeights,
      ox_BadTimes := ⟨⟨_, _, _, _, _, _, _, _, _, _, _, _, _, _, _, xLBadTimes, (show PySem.HandSPX.refsVE [.type "ValueError", .type "Exception", .type "BaseException", .type "object"] = true from by decide +kernel)⟩, saBadTimes, eCBadTimes, tyBadTimes, kcBadTimes⟩,
      xf_BadTimes := ⟨gaBadTimes, ggBadTimes, eCBadTimes, hdBadTimes⟩,
      ix_BadTimes := a2,
      tx_BadTimes := beq_iff_eq.mp i2,
      em_BadTimes_BadSum := PySem.W.exm_ref eCBadSum hdBadSum tyBadSum sbBadTimes_BadSum,
      em_BadTimes_BadRests := PySem.W.exm_ref eCBadRests hdBadRests tyBadRests sbBadTimes_BadRests,
      em_BadTimes_BadRest := PySem.W.exm_ref eCBadRest hdBadRest tyBadRest sbBadTimes_BadRest,
      em_BadTimes_BadTricks := PySem.W.exm_ref eCBadTricks hdBadTricks tyBadTricks sbBadTimes_BadTricks,
      em_BadTimes_BadPairs := PySem.W.exm_ref eCBadPairs hdBadPairs tyBadPairs sbBadTimes_BadPairs,
      em_BadTimes_TooWide := PySem.W.exm_ref eCTooWide hdTooWide tyTooWide sbBadTimes_TooWide,
      em_BadTimes_InvalidText := PySem.W.exm_ref eCInvalidText hdInvalidText tyInvalidText sbBadTimes_InvalidText,
      em_BadTimes_TrickError := PySem.W.exm_ref eCTrickError hdTrickError tyTrickError sbBadTimes_TrickError,
      em_BadTimes_BadBase := PySem.W.exm_ref eCBadBase hdBadBase tyBadBase sbBadTimes_BadBase,
      em_BadTimes_BadTake := PySem.W.exm_ref eCBadTake hdBadTake tyBadTake sbBadTimes_BadTake,
      em_BadTimes_BadTimes := PySem.W.exm_ref eCBadTimes hdBadTimes tyBadTimes sbBadTimes_BadTimes,
      em_BadTimes_BadTrick := PySem.W.exm_ref eCBadTrick hdBadTrick tyBadTrick sbBadTimes_BadTrick,
      em_BadTimes_BadNumber := PySem.W.exm_ref eCBadNumber hdBadNumber tyBadNumber sbBadTimes_BadNumber,
      em_BadTimes_BadDivisor := PySem.W.exm_ref eCBadDivisor hdBadDivisor tyBadDivisor sbBadTimes_BadDivisor,
      em_BadTimes_BadFigures := PySem.W.exm_ref eCBadFigures hdBadFigures tyBadFigures sbBadTimes_BadFigures,
      em_BadTimes_BadWeights := PySem.W.exm_ref eCBadWeights hdBadWeights tyBadWeights sbBadTimes_BadWeights,
      ox_BadTrick := ⟨⟨_, _, _, _, _, _, _, _, _, _, _, _, _, _, _, xLBadTrick, (show PySem.HandSPX.refsVE [.type "ValueError", .type "Exception", .type "BaseException", .type "object"] = true from by decide +kernel)⟩, saBadTrick, eCBadTrick, tyBadTrick, kcBadTrick⟩,
      xf_BadTrick := ⟨gaBadTrick, ggBadTrick, eCBadTrick, hdBadTrick⟩,
      ix_BadTrick := a3,
      tx_BadTrick := beq_iff_eq.mp i3,
      em_BadTrick_BadSum := PySem.W.exm_ref eCBadSum hdBadSum tyBadSum sbBadTrick_BadSum,
      em_BadTrick_BadRests := PySem.W.exm_ref eCBadRests hdBadRests tyBadRests sbBadTrick_BadRests,
      em_BadTrick_BadRest := PySem.W.exm_ref eCBadRest hdBadRest tyBadRest sbBadTrick_BadRest,
      em_BadTrick_BadTricks := PySem.W.exm_ref eCBadTricks hdBadTricks tyBadTricks sbBadTrick_BadTricks,
      em_BadTrick_BadPairs := PySem.W.exm_ref eCBadPairs hdBadPairs tyBadPairs sbBadTrick_BadPairs,
      em_BadTrick_TooWide := PySem.W.exm_ref eCTooWide hdTooWide tyTooWide sbBadTrick_TooWide,
      em_BadTrick_InvalidText := PySem.W.exm_ref eCInvalidText hdInvalidText tyInvalidText sbBadTrick_InvalidText,
      em_BadTrick_TrickError := PySem.W.exm_ref eCTrickError hdTrickError tyTrickError sbBadTrick_TrickError,
      em_BadTrick_BadBase := PySem.W.exm_ref eCBadBase hdBadBase tyBadBase sbBadTrick_BadBase,
      em_BadTrick_BadTake := PySem.W.exm_ref eCBadTake hdBadTake tyBadTake sbBadTrick_BadTake,
      em_BadTrick_BadTimes := PySem.W.exm_ref eCBadTimes hdBadTimes tyBadTimes sbBadTrick_BadTimes,
      em_BadTrick_BadTrick := PySem.W.exm_ref eCBadTrick hdBadTrick tyBadTrick sbBadTrick_BadTrick,
      em_BadTrick_BadNumber := PySem.W.exm_ref eCBadNumber hdBadNumber tyBadNumber sbBadTrick_BadNumber,
      em_BadTrick_BadDivisor := PySem.W.exm_ref eCBadDivisor hdBadDivisor tyBadDivisor sbBadTrick_BadDivisor,
      em_BadTrick_BadFigures := PySem.W.exm_ref eCBadFigures hdBadFigures tyBadFigures sbBadTrick_BadFigures,
      em_BadTrick_BadWeights := PySem.W.exm_ref eCBadWeights hdBadWeights tyBadWeights sbBadTrick_BadWeights,
      ox_BadNumber := ⟨⟨_, _, _, _, _, _, _, _, _, _, _, _, _, _, _, xLBadNumber, (show PySem.HandSPX.refsVE [.type "ValueError", .type "Exception", .type "BaseException", .type "object"] = true from by decide +kernel)⟩, saBadNumber, eCBadNumber, tyBadNumber, kcBadNumber⟩,
      xf_BadNumber := ⟨gaBadNumber, ggBadNumber, eCBadNumber, hdBadNumber⟩,
      ix_BadNumber := a4,
      tx_BadNumber := beq_iff_eq.mp i4,
      nx_BadNumber_n := nfBadNumber_n,
      em_BadNumber_BadSum := PySem.W.exm_ref eCBadSum hdBadSum tyBadSum sbBadNumber_BadSum,
      em_BadNumber_BadRests := PySem.W.exm_ref eCBadRests hdBadRests tyBadRests sbBadNumber_BadRests,
      em_BadNumber_BadRest := PySem.W.exm_ref eCBadRest hdBadRest tyBadRest sbBadNumber_BadRest,
      em_BadNumber_BadTricks := PySem.W.exm_ref eCBadTricks hdBadTricks tyBadTricks sbBadNumber_BadTricks,
      em_BadNumber_BadPairs := PySem.W.exm_ref eCBadPairs hdBadPairs tyBadPairs sbBadNumber_BadPairs,
      em_BadNumber_TooWide := PySem.W.exm_ref eCTooWide hdTooWide tyTooWide sbBadNumber_TooWide,
      em_BadNumber_InvalidText := PySem.W.exm_ref eCInvalidText hdInvalidText tyInvalidText sbBadNumber_InvalidText,
      em_BadNumber_TrickError := PySem.W.exm_ref eCTrickError hdTrickError tyTrickError sbBadNumber_TrickError,
      em_BadNumber_BadBase := PySem.W.exm_ref eCBadBase hdBadBase tyBadBase sbBadNumber_BadBase,
      em_BadNumber_BadTake := PySem.W.exm_ref eCBadTake hdBadTake tyBadTake sbBadNumber_BadTake,
      em_BadNumber_BadTimes := PySem.W.exm_ref eCBadTimes hdBadTimes tyBadTimes sbBadNumber_BadTimes,
      em_BadNumber_BadTrick := PySem.W.exm_ref eCBadTrick hdBadTrick tyBadTrick sbBadNumber_BadTrick,
      em_BadNumber_BadNumber := PySem.W.exm_ref eCBadNumber hdBadNumber tyBadNumber sbBadNumber_BadNumber,
      em_BadNumber_BadDivisor := PySem.W.exm_ref eCBadDivisor hdBadDivisor tyBadDivisor sbBadNumber_BadDivisor,
      em_BadNumber_BadFigures := PySem.W.exm_ref eCBadFigures hdBadFigures tyBadFigures sbBadNumber_BadFigures,
      em_BadNumber_BadWeights := PySem.W.exm_ref eCBadWeights hdBadWeights tyBadWeights sbBadNumber_BadWeights,
      ox_BadDivisor := ⟨⟨_, _, _, _, _, _, _, _, _, _, _, _, _, _, _, xLBadDivisor, (show PySem.HandSPX.refsVE [.type "ValueError", .type "Exception", .type "BaseException", .type "object"] = true from by decide +kernel)⟩, saBadDivisor, eCBadDivisor, tyBadDivisor, kcBadDivisor⟩,
      xf_BadDivisor := ⟨gaBadDivisor, ggBadDivisor, eCBadDivisor, hdBadDivisor⟩,
      ix_BadDivisor := a5,
      tx_BadDivisor := beq_iff_eq.mp i5,
      em_BadDivisor_BadSum := PySem.W.exm_ref eCBadSum hdBadSum tyBadSum sbBadDivisor_BadSum,
      em_BadDivisor_BadRests := PySem.W.exm_ref eCBadRests hdBadRests tyBadRests sbBadDivisor_BadRests,
      em_BadDivisor_BadRest := PySem.W.exm_ref eCBadRest hdBadRest tyBadRest sbBadDivisor_BadRest,
      em_BadDivisor_BadTricks := PySem.W.exm_ref eCBadTricks hdBadTricks tyBadTricks sbBadDivisor_BadTricks,
      em_BadDivisor_BadPairs := PySem.W.exm_ref eCBadPairs hdBadPairs tyBadPairs sbBadDivisor_BadPairs,
      em_BadDivisor_TooWide := PySem.W.exm_ref eCTooWide hdTooWide tyTooWide sbBadDivisor_TooWide,
      em_BadDivisor_InvalidText := PySem.W.exm_ref eCInvalidText hdInvalidText tyInvalidText sbBadDivisor_InvalidText,
      em_BadDivisor_TrickError := PySem.W.exm_ref eCTrickError hdTrickError tyTrickError sbBadDivisor_TrickError,
      em_BadDivisor_BadBase := PySem.W.exm_ref eCBadBase hdBadBase tyBadBase sbBadDivisor_BadBase,
      em_BadDivisor_BadTake := PySem.W.exm_ref eCBadTake hdBadTake tyBadTake sbBadDivisor_BadTake,
      em_BadDivisor_BadTimes := PySem.W.exm_ref eCBadTimes hdBadTimes tyBadTimes sbBadDivisor_BadTimes,
      em_BadDivisor_BadTrick := PySem.W.exm_ref eCBadTrick hdBadTrick tyBadTrick sbBadDivisor_BadTrick,
      em_BadDivisor_BadNumber := PySem.W.exm_ref eCBadNumber hdBadNumber tyBadNumber sbBadDivisor_BadNumber,
      em_BadDivisor_BadDivisor := PySem.W.exm_ref eCBadDivisor hdBadDivisor tyBadDivisor sbBadDivisor_BadDivisor,
      em_BadDivisor_BadFigures := PySem.W.exm_ref eCBadFigures hdBadFigures tyBadFigures sbBadDivisor_BadFigures,
      em_BadDivisor_BadWeights := PySem.W.exm_ref eCBadWeights hdBadWeights tyBadWeights sbBadDivisor_BadWeights,
      ox_BadFigures := ⟨⟨_, _, _, _, _, _, _, _, _, _, _, _, _, _, _, xLBadFigures, (show PySem.HandSPX.refsVE [.type "ValueError", .type "Exception", .type "BaseException", .type "object"] = true from by decide +kernel)⟩, saBadFigures, eCBadFigures, tyBadFigures, kcBadFigures⟩,
      xf_BadFigures := ⟨gaBadFigures, ggBadFigures, eCBadFigures, hdBadFigures⟩,
      ix_BadFigures := a6,
      tx_BadFigures := beq_iff_eq.mp i6,
      nx_BadFigures_index := nfBadFigures_index,
      em_BadFigures_BadSum := PySem.W.exm_ref eCBadSum hdBadSum tyBadSum sbBadFigures_BadSum,
      em_BadFigures_BadRests := PySem.W.exm_ref eCBadRests hdBadRests tyBadRests sbBadFigures_BadRests,
      em_BadFigures_BadRest := PySem.W.exm_ref eCBadRest hdBadRest tyBadRest sbBadFigures_BadRest,
      em_BadFigures_BadTricks := PySem.W.exm_ref eCBadTricks hdBadTricks tyBadTricks sbBadFigures_BadTricks,
      em_BadFigures_BadPairs := PySem.W.exm_ref eCBadPairs hdBadPairs tyBadPairs sbBadFigures_BadPairs,
      em_BadFigures_TooWide := PySem.W.exm_ref eCTooWide hdTooWide tyTooWide sbBadFigures_TooWide,
      em_BadFigures_InvalidText := PySem.W.exm_ref eCInvalidText hdInvalidText tyInvalidText sbBadFigures_InvalidText,
      em_BadFigures_TrickError := PySem.W.exm_ref eCTrickError hdTrickError tyTrickError sbBadFigures_TrickError,
      em_BadFigures_BadBase := PySem.W.exm_ref eCBadBase hdBadBase tyBadBase sbBadFigures_BadBase,
      em_BadFigures_BadTake := PySem.W.exm_ref eCBadTake hdBadTake tyBadTake sbBadFigures_BadTake,
      em_BadFigures_BadTimes := PySem.W.exm_ref eCBadTimes hdBadTimes tyBadTimes sbBadFigures_BadTimes,
      em_BadFigures_BadTrick := PySem.W.exm_ref eCBadTrick hdBadTrick tyBadTrick sbBadFigures_BadTrick,
      em_BadFigures_BadNumber := PySem.W.exm_ref eCBadNumber hdBadNumber tyBadNumber sbBadFigures_BadNumber,
      em_BadFigures_BadDivisor := PySem.W.exm_ref eCBadDivisor hdBadDivisor tyBadDivisor sbBadFigures_BadDivisor,
      em_BadFigures_BadFigures := PySem.W.exm_ref eCBadFigures hdBadFigures tyBadFigures sbBadFigures_BadFigures,
      em_BadFigures_BadWeights := PySem.W.exm_ref eCBadWeights hdBadWeights tyBadWeights sbBadFigures_BadWeights,
      ox_BadWeights := ⟨⟨_, _, _, _, _, _, _, _, _, _, _, _, _, _, _, xLBadWeights, (show PySem.HandSPX.refsVE [.type "ValueError", .type "Exception", .type "BaseException", .type "object"] = true from by decide +kernel)⟩, saBadWeights, eCBadWeights, tyBadWeights, kcBadWeights⟩,
      xf_BadWeights := ⟨gaBadWeights, ggBadWeights, eCBadWeights, hdBadWeights⟩,
      ix_BadWeights := a7,
      tx_BadWeights := beq_iff_eq.mp i7,
      nx_BadWeights_index := nfBadWeights_index,
      em_BadWeights_BadSum := PySem.W.exm_ref eCBadSum hdBadSum tyBadSum sbBadWeights_BadSum,
      em_BadWeights_BadRests := PySem.W.exm_ref eCBadRests hdBadRests tyBadRests sbBadWeights_BadRests,
      em_BadWeights_BadRest := PySem.W.exm_ref eCBadRest hdBadRest tyBadRest sbBadWeights_BadRest,
      em_BadWeights_BadTricks := PySem.W.exm_ref eCBadTricks hdBadTricks tyBadTricks sbBadWeights_BadTricks,
      em_BadWeights_BadPairs := PySem.W.exm_ref eCBadPairs hdBadPairs tyBadPairs sbBadWeights_BadPairs,
      em_BadWeights_TooWide := PySem.W.exm_ref eCTooWide hdTooWide tyTooWide sbBadWeights_TooWide,
      em_BadWeights_InvalidText := PySem.W.exm_ref eCInvalidText hdInvalidText tyInvalidText sbBadWeights_InvalidText,
      em_BadWeights_TrickError := PySem.W.exm_ref eCTrickError hdTrickError tyTrickError sbBadWeights_TrickError,
      em_BadWeights_BadBase := PySem.W.exm_ref eCBadBase hdBadBase tyBadBase sbBadWeights_BadBase,
      em_BadWeights_BadTake := PySem.W.exm_ref eCBadTake hdBadTake tyBadTake sbBadWeights_BadTake,
      em_BadWeights_BadTimes := PySem.W.exm_ref eCBadTimes hdBadTimes tyBadTimes sbBadWeights_BadTimes,
      em_BadWeights_BadTrick := PySem.W.exm_ref eCBadTrick hdBadTrick tyBadTrick sbBadWeights_BadTrick,
      em_BadWeights_BadNumber := PySem.W.exm_ref eCBadNumber hdBadNumber tyBadNumber sbBadWeights_BadNumber,
      em_BadWeights_BadDivisor := PySem.W.exm_ref eCBadDivisor hdBadDivisor tyBadDivisor sbBadWeights_BadDivisor,
      em_BadWeights_BadFigures := PySem.W.exm_ref eCBadFigures hdBadFigures tyBadFigures sbBadWeights_BadFigures,
      em_BadWeights_BadWeights := PySem.W.exm_ref eCBadWeights hdBadWeights tyBadWeights sbBadWeights_BadWeights,
      ox_BadSum := ⟨⟨_, _, _, _, _, _, _, _, _, _, _, _, _, _, _, xLBadSum, (show PySem.HandSPX.refsVE [.type "ValueError", .type "Exception", .type "BaseException", .type "object"] = true from by decide +kernel)⟩, saBadSum, eCBadSum, tyBadSum, kcBadSum⟩,
      xf_BadSum := ⟨gaBadSum, ggBadSum, eCBadSum, hdBadSum⟩,
      ix_BadSum := a8,
      tx_BadSum := beq_iff_eq.mp i8,
      em_BadSum_BadSum := PySem.W.exm_ref eCBadSum hdBadSum tyBadSum sbBadSum_BadSum,
      em_BadSum_BadRests := PySem.W.exm_ref eCBadRests hdBadRests tyBadRests sbBadSum_BadRests,
      em_BadSum_BadRest := PySem.W.exm_ref eCBadRest hdBadRest tyBadRest sbBadSum_BadRest,
      em_BadSum_BadTricks := PySem.W.exm_ref eCBadTricks hdBadTricks tyBadTricks sbBadSum_BadTricks,
      em_BadSum_BadPairs := PySem.W.exm_ref eCBadPairs hdBadPairs tyBadPairs sbBadSum_BadPairs,
      em_BadSum_TooWide := PySem.W.exm_ref eCTooWide hdTooWide tyTooWide sbBadSum_TooWide,
      em_BadSum_InvalidText := PySem.W.exm_ref eCInvalidText hdInvalidText tyInvalidText sbBadSum_InvalidText,
      em_BadSum_TrickError := PySem.W.exm_ref eCTrickError hdTrickError tyTrickError sbBadSum_TrickError,
      em_BadSum_BadBase := PySem.W.exm_ref eCBadBase hdBadBase tyBadBase sbBadSum_BadBase,
      em_BadSum_BadTake := PySem.W.exm_ref eCBadTake hdBadTake tyBadTake sbBadSum_BadTake,
      em_BadSum_BadTimes := PySem.W.exm_ref eCBadTimes hdBadTimes tyBadTimes sbBadSum_BadTimes,
      em_BadSum_BadTrick := PySem.W.exm_ref eCBadTrick hdBadTrick tyBadTrick sbBadSum_BadTrick,
      em_BadSum_BadNumber := PySem.W.exm_ref eCBadNumber hdBadNumber tyBadNumber sbBadSum_BadNumber,
      em_BadSum_BadDivisor := PySem.W.exm_ref eCBadDivisor hdBadDivisor tyBadDivisor sbBadSum_BadDivisor,
      em_BadSum_BadFigures := PySem.W.exm_ref eCBadFigures hdBadFigures tyBadFigures sbBadSum_BadFigures,
      em_BadSum_BadWeights := PySem.W.exm_ref eCBadWeights hdBadWeights tyBadWeights sbBadSum_BadWeights,
      ox_BadRests := ⟨⟨_, _, _, _, _, _, _, _, _, _, _, _, _, _, _, xLBadRests, (show PySem.HandSPX.refsVE [.type "ValueError", .type "Exception", .type "BaseException", .type "object"] = true from by decide +kernel)⟩, saBadRests, eCBadRests, tyBadRests, kcBadRests⟩,
      xf_BadRests := ⟨gaBadRests, ggBadRests, eCBadRests, hdBadRests⟩,
      ix_BadRests := a9,
      tx_BadRests := beq_iff_eq.mp i9,
      nx_BadRests_index := nfBadRests_index,
      em_BadRests_BadSum := PySem.W.exm_ref eCBadSum hdBadSum tyBadSum sbBadRests_BadSum,
      em_BadRests_BadRests := PySem.W.exm_ref eCBadRests hdBadRests tyBadRests sbBadRests_BadRests,
      em_BadRests_BadRest := PySem.W.exm_ref eCBadRest hdBadRest tyBadRest sbBadRests_BadRest,
      em_BadRests_BadTricks := PySem.W.exm_ref eCBadTricks hdBadTricks tyBadTricks sbBadRests_BadTricks,
      em_BadRests_BadPairs := PySem.W.exm_ref eCBadPairs hdBadPairs tyBadPairs sbBadRests_BadPairs,
      em_BadRests_TooWide := PySem.W.exm_ref eCTooWide hdTooWide tyTooWide sbBadRests_TooWide,
      em_BadRests_InvalidText := PySem.W.exm_ref eCInvalidText hdInvalidText tyInvalidText sbBadRests_InvalidText,
      em_BadRests_TrickError := PySem.W.exm_ref eCTrickError hdTrickError tyTrickError sbBadRests_TrickError,
      em_BadRests_BadBase := PySem.W.exm_ref eCBadBase hdBadBase tyBadBase sbBadRests_BadBase,
      em_BadRests_BadTake := PySem.W.exm_ref eCBadTake hdBadTake tyBadTake sbBadRests_BadTake,
      em_BadRests_BadTimes := PySem.W.exm_ref eCBadTimes hdBadTimes tyBadTimes sbBadRests_BadTimes,
      em_BadRests_BadTrick := PySem.W.exm_ref eCBadTrick hdBadTrick tyBadTrick sbBadRests_BadTrick,
      em_BadRests_BadNumber := PySem.W.exm_ref eCBadNumber hdBadNumber tyBadNumber sbBadRests_BadNumber,
      em_BadRests_BadDivisor := PySem.W.exm_ref eCBadDivisor hdBadDivisor tyBadDivisor sbBadRests_BadDivisor,
      em_BadRests_BadFigures := PySem.W.exm_ref eCBadFigures hdBadFigures tyBadFigures sbBadRests_BadFigures,
      em_BadRests_BadWeights := PySem.W.exm_ref eCBadWeights hdBadWeights tyBadWeights sbBadRests_BadWeights,
      ox_BadRest := ⟨⟨_, _, _, _, _, _, _, _, _, _, _, _, _, _, _, xLBadRest, (show PySem.HandSPX.refsVE [.type "ValueError", .type "Exception", .type "BaseException", .type "object"] = true from by decide +kernel)⟩, saBadRest, eCBadRest, tyBadRest, kcBadRest⟩,
      xf_BadRest := ⟨gaBadRest, ggBadRest, eCBadRest, hdBadRest⟩,
      ix_BadRest := a10,
      tx_BadRest := beq_iff_eq.mp i10,
      em_BadRest_BadSum := PySem.W.exm_ref eCBadSum hdBadSum tyBadSum sbBadRest_BadSum,
      em_BadRest_BadRests := PySem.W.exm_ref eCBadRests hdBadRests tyBadRests sbBadRest_BadRests,
      em_BadRest_BadRest := PySem.W.exm_ref eCBadRest hdBadRest tyBadRest sbBadRest_BadRest,
      em_BadRest_BadTricks := PySem.W.exm_ref eCBadTricks hdBadTricks tyBadTricks sbBadRest_BadTricks,
      em_BadRest_BadPairs := PySem.W.exm_ref eCBadPairs hdBadPairs tyBadPairs sbBadRest_BadPairs,
      em_BadRest_TooWide := PySem.W.exm_ref eCTooWide hdTooWide tyTooWide sbBadRest_TooWide,
      em_BadRest_InvalidText := PySem.W.exm_ref eCInvalidText hdInvalidText tyInvalidText sbBadRest_InvalidText,
      em_BadRest_TrickError := PySem.W.exm_ref eCTrickError hdTrickError tyTrickError sbBadRest_TrickError,
      em_BadRest_BadBase := PySem.W.exm_ref eCBadBase hdBadBase tyBadBase sbBadRest_BadBase,
      em_BadRest_BadTake := PySem.W.exm_ref eCBadTake hdBadTake tyBadTake sbBadRest_BadTake,
      em_BadRest_BadTimes := PySem.W.exm_ref eCBadTimes hdBadTimes tyBadTimes sbBadRest_BadTimes,
      em_BadRest_BadTrick := PySem.W.exm_ref eCBadTrick hdBadTrick tyBadTrick sbBadRest_BadTrick,
      em_BadRest_BadNumber := PySem.W.exm_ref eCBadNumber hdBadNumber tyBadNumber sbBadRest_BadNumber,
      em_BadRest_BadDivisor := PySem.W.exm_ref eCBadDivisor hdBadDivisor tyBadDivisor sbBadRest_BadDivisor,
      em_BadRest_BadFigures := PySem.W.exm_ref eCBadFigures hdBadFigures tyBadFigures sbBadRest_BadFigures,
      em_BadRest_BadWeights := PySem.W.exm_ref eCBadWeights hdBadWeights tyBadWeights sbBadRest_BadWeights,
      ox_BadTricks := ⟨⟨_, _, _, _, _, _, _, _, _, _, _, _, _, _, _, xLBadTricks, (show PySem.HandSPX.refsVE [.type "ValueError", .type "Exception", .type "BaseException", .type "object"] = true from by decide +kernel)⟩, saBadTricks, eCBadTricks, tyBadTricks, kcBadTricks⟩,
      xf_BadTricks := ⟨gaBadTricks, ggBadTricks, eCBadTricks, hdBadTricks⟩,
      ix_BadTricks := a11,
      tx_BadTricks := beq_iff_eq.mp i11,
      nx_BadTricks_index := nfBadTricks_index,
      em_BadTricks_BadSum := PySem.W.exm_ref eCBadSum hdBadSum tyBadSum sbBadTricks_BadSum,
      em_BadTricks_BadRests := PySem.W.exm_ref eCBadRests hdBadRests tyBadRests sbBadTricks_BadRests,
      em_BadTricks_BadRest := PySem.W.exm_ref eCBadRest hdBadRest tyBadRest sbBadTricks_BadRest,
      em_BadTricks_BadTricks := PySem.W.exm_ref eCBadTricks hdBadTricks tyBadTricks sbBadTricks_BadTricks,
      em_BadTricks_BadPairs := PySem.W.exm_ref eCBadPairs hdBadPairs tyBadPairs sbBadTricks_BadPairs,
      em_BadTricks_TooWide := PySem.W.exm_ref eCTooWide hdTooWide tyTooWide sbBadTricks_TooWide,
      em_BadTricks_InvalidText := PySem.W.exm_ref eCInvalidText hdInvalidText tyInvalidText sbBadTricks_InvalidText,
      em_BadTricks_TrickError := PySem.W.exm_ref eCTrickError hdTrickError tyTrickError sbBadTricks_TrickError,
      em_BadTricks_BadBase := PySem.W.exm_ref eCBadBase hdBadBase tyBadBase sbBadTricks_BadBase,
      em_BadTricks_BadTake := PySem.W.exm_ref eCBadTake hdBadTake tyBadTake sbBadTricks_BadTake,
      em_BadTricks_BadTimes := PySem.W.exm_ref eCBadTimes hdBadTimes tyBadTimes sbBadTricks_BadTimes,
      em_BadTricks_BadTrick := PySem.W.exm_ref eCBadTrick hdBadTrick tyBadTrick sbBadTricks_BadTrick,
      em_BadTricks_BadNumber := PySem.W.exm_ref eCBadNumber hdBadNumber tyBadNumber sbBadTricks_BadNumber,
      em_BadTricks_BadDivisor := PySem.W.exm_ref eCBadDivisor hdBadDivisor tyBadDivisor sbBadTricks_BadDivisor,
      em_BadTricks_BadFigures := PySem.W.exm_ref eCBadFigures hdBadFigures tyBadFigures sbBadTricks_BadFigures,
      em_BadTricks_BadWeights := PySem.W.exm_ref eCBadWeights hdBadWeights tyBadWeights sbBadTricks_BadWeights,
      ox_BadPairs := ⟨⟨_, _, _, _, _, _, _, _, _, _, _, _, _, _, _, xLBadPairs, (show PySem.HandSPX.refsVE [.type "ValueError", .type "Exception", .type "BaseException", .type "object"] = true from by decide +kernel)⟩, saBadPairs, eCBadPairs, tyBadPairs, kcBadPairs⟩,
      xf_BadPairs := ⟨gaBadPairs, ggBadPairs, eCBadPairs, hdBadPairs⟩,
      ix_BadPairs := a12,
      tx_BadPairs := beq_iff_eq.mp i12,
      nx_BadPairs_index := nfBadPairs_index,
      em_BadPairs_BadSum := PySem.W.exm_ref eCBadSum hdBadSum tyBadSum sbBadPairs_BadSum,
      em_BadPairs_BadRests := PySem.W.exm_ref eCBadRests hdBadRests tyBadRests sbBadPairs_BadRests,
      em_BadPairs_BadRest := PySem.W.exm_ref eCBadRest hdBadRest tyBadRest sbBadPairs_BadRest,
      em_BadPairs_BadTricks := PySem.W.exm_ref eCBadTricks hdBadTricks tyBadTricks sbBadPairs_BadTricks,
      em_BadPairs_BadPairs := PySem.W.exm_ref eCBadPairs hdBadPairs tyBadPairs sbBadPairs_BadPairs,
      em_BadPairs_TooWide := PySem.W.exm_ref eCTooWide hdTooWide tyTooWide sbBadPairs_TooWide,
      em_BadPairs_InvalidText := PySem.W.exm_ref eCInvalidText hdInvalidText tyInvalidText sbBadPairs_InvalidText,
      em_BadPairs_TrickError := PySem.W.exm_ref eCTrickError hdTrickError tyTrickError sbBadPairs_TrickError,
      em_BadPairs_BadBase := PySem.W.exm_ref eCBadBase hdBadBase tyBadBase sbBadPairs_BadBase,
      em_BadPairs_BadTake := PySem.W.exm_ref eCBadTake hdBadTake tyBadTake sbBadPairs_BadTake,
      em_BadPairs_BadTimes := PySem.W.exm_ref eCBadTimes hdBadTimes tyBadTimes sbBadPairs_BadTimes,
      em_BadPairs_BadTrick := PySem.W.exm_ref eCBadTrick hdBadTrick tyBadTrick sbBadPairs_BadTrick,
      em_BadPairs_BadNumber := PySem.W.exm_ref eCBadNumber hdBadNumber tyBadNumber sbBadPairs_BadNumber,
      em_BadPairs_BadDivisor := PySem.W.exm_ref eCBadDivisor hdBadDivisor tyBadDivisor sbBadPairs_BadDivisor,
      em_BadPairs_BadFigures := PySem.W.exm_ref eCBadFigures hdBadFigures tyBadFigures sbBadPairs_BadFigures,
      em_BadPairs_BadWeights := PySem.W.exm_ref eCBadWeights hdBadWeights tyBadWeights sbBadPairs_BadWeights,
      ox_TooWide := ⟨⟨_, _, _, _, _, _, _, _, _, _, _, _, _, _, _, xLTooWide, (show PySem.HandSPX.refsVE [.type "ValueError", .type "Exception", .type "BaseException", .type "object"] = true from by decide +kernel)⟩, saTooWide, eCTooWide, tyTooWide, kcTooWide⟩,
      xf_TooWide := ⟨gaTooWide, ggTooWide, eCTooWide, hdTooWide⟩,
      ix_TooWide := a13,
      tx_TooWide := beq_iff_eq.mp i13,
      nx_TooWide_most := nfTooWide_most,
      em_TooWide_BadSum := PySem.W.exm_ref eCBadSum hdBadSum tyBadSum sbTooWide_BadSum,
      em_TooWide_BadRests := PySem.W.exm_ref eCBadRests hdBadRests tyBadRests sbTooWide_BadRests,
      em_TooWide_BadRest := PySem.W.exm_ref eCBadRest hdBadRest tyBadRest sbTooWide_BadRest,
      em_TooWide_BadTricks := PySem.W.exm_ref eCBadTricks hdBadTricks tyBadTricks sbTooWide_BadTricks,
      em_TooWide_BadPairs := PySem.W.exm_ref eCBadPairs hdBadPairs tyBadPairs sbTooWide_BadPairs,
      em_TooWide_TooWide := PySem.W.exm_ref eCTooWide hdTooWide tyTooWide sbTooWide_TooWide,
      em_TooWide_InvalidText := PySem.W.exm_ref eCInvalidText hdInvalidText tyInvalidText sbTooWide_InvalidText,
      em_TooWide_TrickError := PySem.W.exm_ref eCTrickError hdTrickError tyTrickError sbTooWide_TrickError,
      em_TooWide_BadBase := PySem.W.exm_ref eCBadBase hdBadBase tyBadBase sbTooWide_BadBase,
      em_TooWide_BadTake := PySem.W.exm_ref eCBadTake hdBadTake tyBadTake sbTooWide_BadTake,
      em_TooWide_BadTimes := PySem.W.exm_ref eCBadTimes hdBadTimes tyBadTimes sbTooWide_BadTimes,
      em_TooWide_BadTrick := PySem.W.exm_ref eCBadTrick hdBadTrick tyBadTrick sbTooWide_BadTrick,
      em_TooWide_BadNumber := PySem.W.exm_ref eCBadNumber hdBadNumber tyBadNumber sbTooWide_BadNumber,
      em_TooWide_BadDivisor := PySem.W.exm_ref eCBadDivisor hdBadDivisor tyBadDivisor sbTooWide_BadDivisor,
      em_TooWide_BadFigures := PySem.W.exm_ref eCBadFigures hdBadFigures tyBadFigures sbTooWide_BadFigures,
      em_TooWide_BadWeights := PySem.W.exm_ref eCBadWeights hdBadWeights tyBadWeights sbTooWide_BadWeights,
      ox_InvalidText := ⟨⟨_, _, _, _, _, _, _, _, _, _, _, _, _, _, _, xLInvalidText, (show PySem.HandSPX.refsVE [.type "ValueError", .type "Exception", .type "BaseException", .type "object"] = true from by decide +kernel)⟩, saInvalidText, eCInvalidText, tyInvalidText, kcInvalidText⟩,
      xf_InvalidText := ⟨gaInvalidText, ggInvalidText, eCInvalidText, hdInvalidText⟩,
      ix_InvalidText := a14,
      tx_InvalidText := beq_iff_eq.mp i14,
      nx_InvalidText_word := nfInvalidText_word,
      em_InvalidText_BadSum := PySem.W.exm_ref eCBadSum hdBadSum tyBadSum sbInvalidText_BadSum,
      em_InvalidText_BadRests := PySem.W.exm_ref eCBadRests hdBadRests tyBadRests sbInvalidText_BadRests,
      em_InvalidText_BadRest := PySem.W.exm_ref eCBadRest hdBadRest tyBadRest sbInvalidText_BadRest,
      em_InvalidText_BadTricks := PySem.W.exm_ref eCBadTricks hdBadTricks tyBadTricks sbInvalidText_BadTricks,
      em_InvalidText_BadPairs := PySem.W.exm_ref eCBadPairs hdBadPairs tyBadPairs sbInvalidText_BadPairs,
      em_InvalidText_TooWide := PySem.W.exm_ref eCTooWide hdTooWide tyTooWide sbInvalidText_TooWide,
      em_InvalidText_InvalidText := PySem.W.exm_ref eCInvalidText hdInvalidText tyInvalidText sbInvalidText_InvalidText,
      em_InvalidText_TrickError := PySem.W.exm_ref eCTrickError hdTrickError tyTrickError sbInvalidText_TrickError,
      em_InvalidText_BadBase := PySem.W.exm_ref eCBadBase hdBadBase tyBadBase sbInvalidText_BadBase,
      em_InvalidText_BadTake := PySem.W.exm_ref eCBadTake hdBadTake tyBadTake sbInvalidText_BadTake,
      em_InvalidText_BadTimes := PySem.W.exm_ref eCBadTimes hdBadTimes tyBadTimes sbInvalidText_BadTimes,
      em_InvalidText_BadTrick := PySem.W.exm_ref eCBadTrick hdBadTrick tyBadTrick sbInvalidText_BadTrick,
      em_InvalidText_BadNumber := PySem.W.exm_ref eCBadNumber hdBadNumber tyBadNumber sbInvalidText_BadNumber,
      em_InvalidText_BadDivisor := PySem.W.exm_ref eCBadDivisor hdBadDivisor tyBadDivisor sbInvalidText_BadDivisor,
      em_InvalidText_BadFigures := PySem.W.exm_ref eCBadFigures hdBadFigures tyBadFigures sbInvalidText_BadFigures,
      em_InvalidText_BadWeights := PySem.W.exm_ref eCBadWeights hdBadWeights tyBadWeights sbInvalidText_BadWeights,
      v_LEAST_BASE := ⟨_, PySem.W.mg_of X G v_LEAST_BASE⟩,
      v_MOST_BASE := ⟨_, PySem.W.mg_of X G v_MOST_BASE⟩,
      v_MOST_NUMBER := ⟨_, PySem.W.mg_of X G v_MOST_NUMBER⟩,
      v_MOST_FIGURES := ⟨_, PySem.W.mg_of X G v_MOST_FIGURES⟩,
      v_MOST_DIVISOR := ⟨_, PySem.W.mg_of X G v_MOST_DIVISOR⟩,
      v_MOST_TAKE := ⟨_, PySem.W.mg_of X G v_MOST_TAKE⟩,
      v_MOST_TIMES := ⟨_, PySem.W.mg_of X G v_MOST_TIMES⟩,
      v_MOST_TRICKS := ⟨_, PySem.W.mg_of X G v_MOST_TRICKS⟩,
      v_MOST_WIDE := ⟨_, PySem.W.mg_of X G v_MOST_WIDE⟩,
      v_MOST_CHAIN_DIVISOR := ⟨_, PySem.W.mg_of X G v_MOST_CHAIN_DIVISOR⟩,
      v_MOST_RESTS := ⟨_, PySem.W.mg_of X G v_MOST_RESTS⟩,
      v_MOST_WEIGHT := ⟨_, PySem.W.mg_of X G v_MOST_WEIGHT⟩,
      v_MOST_WEIGHTS := ⟨_, PySem.W.mg_of X G v_MOST_WEIGHTS⟩,
      v_MOST_PAIRS := ⟨_, PySem.W.mg_of X G v_MOST_PAIRS⟩,
      n_isinstance := PySem.W.mg_none_of X G z_isinstance,
      n_int := PySem.W.mg_none_of X G z_int,
      n_bool := PySem.W.mg_none_of X G z_bool,
      n_enumerate := PySem.W.mg_none_of X G z_enumerate,
      n_tuple := PySem.W.mg_none_of X G z_tuple,
      n_len := PySem.W.mg_none_of X G z_len,
      n_range := PySem.W.mg_none_of X G z_range,
      n_list := PySem.W.mg_none_of X G z_list,
      n_set := PySem.W.mg_none_of X G z_set,
      n_str := PySem.W.mg_none_of X G z_str,
      n_all := PySem.W.mg_none_of X G z_all,
      n_min := PySem.W.mg_none_of X G z_min }
  exact ⟨_, fun s v => .of_eq rfl, fun base _ _ => ok_law T⟩
theorem walk {l : PySem.W.OpenLaw} {q : Program} {loose : List Str} {XP : (Str → Option Value) → Heap → Prop} {YP : World → Heap → Prop} {d : DefRec} {K : Params → Frag} (hn : l.most = some 63) (hdf : d.params.defaults = [])
    (hY : ∀ (w : World) (h : Heap), YP w h → (K w.params).In h)
    (F : ∀ (w : World) (mg : Str → Option Value) (fa : Addr) (h : Heap), (K w.params).In h → h.Ns mainGlobals mg → mg d.name = some (.ref fa) →
      ∃ fd : FuncData, (∀ (s : Shared) (u : Value), BindsTo s fd ⟨[u], []⟩ [("_law_script", u)]) ∧ ∀ base : Heap, (K w.params).In base → base.Ns mainGlobals mg → FnOk l.prog w (K w.params) mg base CX0 9 fa fd ["_law_script"] (sp_law (K w.params))) :
    PySem.W.WalkO q loose XP YP l.row.toRowW d [] (fun f vs => PySem.call f vs) :=
  L2.walk_of (n := 63) (k := 9) (x := "_law_script") (CX := fun _ => CX0) (sp := fun w => sp_law (K w.params)) hn (by decide) hdf ⟨rfl, by decide, by decide⟩ hY F (fun _ _ a ns hl _ hS => ⟨a, ns, rfl, hS, hl, fun _ => rfl⟩) fun _ _ _ _ _ z => z
end Toy

open PySem PySem.W PyProof.Rows
set_option maxRecDepth 100000 in
set_option maxHeartbeats 0 in
theorem PySem.Challenge.cw_resttricks_k42_errors_are_apart_holds : PySem.Challenge.rw_resttricks_k42_errors_are_apart.Holds := by
  w_on; o_law; k_head; (case hw => w_witness2)
  k_fill
  refine Toy.walk (l := PySem.Challenge.rw_resttricks_k42_errors_are_apart) rfl rfl (fun w h Y => PySem.W.kIn_of Y) ?F
  case F =>
    intro w mg fa h KX G hmg
    refine' Toy.all_mk KX G hmg ?a0 ?i0 ?l0 ?c0 ?k0 ?a1 ?i1 ?l1 ?c1 ?k1 ?a2 ?i2 ?l2 ?c2 ?k2 ?a3 ?i3 ?l3 ?c3 ?k3 ?a4 ?i4 ?l4 ?c4 ?k4 ?a5 ?i5 ?l5 ?c5 ?k5 ?a6 ?i6 ?l6 ?c6 ?k6 ?a7 ?i7 ?l7 ?c7 ?k7 ?a8 ?i8 ?l8 ?c8 ?k8 ?a9 ?i9 ?l9 ?c9 ?k9 ?a10 ?i10 ?l10 ?c10 ?k10 ?a11 ?i11 ?l11 ?c11 ?k11 ?a12 ?i12 ?l12 ?c12 ?k12 ?a13 ?i13 ?l13 ?c13 ?k13 ?a14 ?i14 ?l14 ?c14 ?k14 ?a15 ?l15 ?c15 ?k15 ?a16 ?l16 ?c16 ?k16 ?a17 ?l17 ?c17 ?k17 ?a18 ?l18 ?c18 ?k18 ?a19 ?l19 ?c19 ?k19 ?a20 ?l20 ?c20 ?k20 ?a21 ?l21 ?c21 ?k21 ?a22 ?i22 ?l22 ?c22 ?k22 ?a23 ?l23 ?c23 ?k23 ?a24 ?l24 ?c24 ?k24 ?a25 ?l25 ?c25 ?k25 ?a26 ?l26 ?c26 ?k26 ?a27 ?l27 ?c27 ?k27 ?a28 ?l28 ?c28 ?k28 ?a29 ?l29 ?c29 ?k29 ?a30 ?l30 ?c30 ?k30 ?a31 ?l31 ?c31 ?k31 ?a32 ?l32 ?c32 ?k32 ?a33 ?l33 ?c33 ?k33 ?a34 ?l34 ?c34 ?k34 ?a35 ?i35 ?l35 ?c35 ?k35 ?a36 ?l36 ?c36 ?k36 ?a37 ?l37 ?c37 ?k37 ?a38 ?l38 ?c38 ?k38 ?a39 ?l39 ?c39 ?k39 ?a40 ?l40 ?c40 ?k40 ?a41 ?l41 ?c41 ?k41 ?a42 ?l42 ?c42 ?k42 ?a43 ?l43 ?c43 ?k43 ?a44 ?l44 ?c44 ?k44 ?a45 ?l45 ?c45 ?k45 ?a46 ?l46 ?c46 ?k46 ?a47 ?l47 ?c47 ?k47 ?a48 ?l48 ?c48 ?k48 ?aCTrickError ?aCBadBase ?aCBadTake ?aCBadTimes ?aCBadTrick ?aCBadNumber ?aCBadDivisor ?aCBadFigures ?aCBadWeights ?aCBadSum ?aCBadRests ?aCBadRest ?aCBadTricks ?aCBadPairs ?aCTooWide ?aCInvalidText ?rdTrickError ?gtTrickError ?fcTrickError ?xLBadBase ?saBadBase ?eCBadBase ?tyBadBase ?kcBadBase ?gaBadBase ?ggBadBase ?hdBadBase ?xLBadTake ?saBadTake ?eCBadTake ?tyBadTake ?kcBadTake ?gaBadTake ?ggBadTake ?hdBadTake ?xLBadTimes ?saBadTimes ?eCBadTimes ?tyBadTimes ?kcBadTimes ?gaBadTimes ?ggBadTimes ?hdBadTimes ?xLBadTrick ?saBadTrick ?eCBadTrick ?tyBadTrick ?kcBadTrick ?gaBadTrick ?ggBadTrick ?hdBadTrick ?xLBadNumber ?saBadNumber ?eCBadNumber ?tyBadNumber ?kcBadNumber ?gaBadNumber ?ggBadNumber ?hdBadNumber ?nfBadNumber_n ?xLBadDivisor ?saBadDivisor ?eCBadDivisor ?tyBadDivisor ?kcBadDivisor ?gaBadDivisor ?ggBadDivisor ?hdBadDivisor ?xLBadFigures ?saBadFigures ?eCBadFigures ?tyBadFigures ?kcBadFigures ?gaBadFigures ?ggBadFigures ?hdBadFigures ?nfBadFigures_index ?xLBadWeights ?saBadWeights ?eCBadWeights ?tyBadWeights ?kcBadWeights ?gaBadWeights ?ggBadWeights ?hdBadWeights ?nfBadWeights_index ?xLBadSum ?saBadSum ?eCBadSum ?tyBadSum ?kcBadSum ?gaBadSum ?ggBadSum ?hdBadSum ?xLBadRests ?saBadRests ?eCBadRests ?tyBadRests ?kcBadRests ?gaBadRests ?ggBadRests ?hdBadRests ?nfBadRests_index ?xLBadRest ?saBadRest ?eCBadRest ?tyBadRest ?kcBadRest ?gaBadRest ?ggBadRest ?hdBadRest ?xLBadTricks ?saBadTricks ?eCBadTricks ?tyBadTricks ?kcBadTricks ?gaBadTricks ?ggBadTricks ?hdBadTricks ?nfBadTricks_index ?xLBadPairs ?saBadPairs ?eCBadPairs ?tyBadPairs ?kcBadPairs ?gaBadPairs ?ggBadPairs ?hdBadPairs ?nfBadPairs_index ?xLTooWide ?saTooWide ?eCTooWide ?tyTooWide ?kcTooWide ?gaTooWide ?ggTooWide ?hdTooWide ?nfTooWide_most ?xLInvalidText ?saInvalidText ?eCInvalidText ?tyInvalidText ?kcInvalidText ?gaInvalidText ?ggInvalidText ?hdInvalidText ?nfInvalidText_word ?sbBadBase_BadSum ?sbBadTake_BadSum ?sbBadTimes_BadSum ?sbBadTrick_BadSum ?sbBadNumber_BadSum ?sbBadDivisor_BadSum ?sbBadFigures_BadSum ?sbBadWeights_BadSum ?sbBadSum_BadSum ?sbBadRests_BadSum ?sbBadRest_BadSum ?sbBadTricks_BadSum ?sbBadPairs_BadSum ?sbTooWide_BadSum ?sbInvalidText_BadSum ?sbBadBase_BadRests ?sbBadTake_BadRests ?sbBadTimes_BadRests ?sbBadTrick_BadRests ?sbBadNumber_BadRests ?sbBadDivisor_BadRests ?sbBadFigures_BadRests ?sbBadWeights_BadRests ?sbBadSum_BadRests ?sbBadRests_BadRests ?sbBadRest_BadRests ?sbBadTricks_BadRests ?sbBadPairs_BadRests ?sbTooWide_BadRests ?sbInvalidText_BadRests ?sbBadBase_BadRest ?sbBadTake_BadRest ?sbBadTimes_BadRest ?sbBadTrick_BadRest ?sbBadNumber_BadRest ?sbBadDivisor_BadRest ?sbBadFigures_BadRest ?sbBadWeights_BadRest ?sbBadSum_BadRest ?sbBadRests_BadRest ?sbBadRest_BadRest ?sbBadTricks_BadRest ?sbBadPairs_BadRest ?sbTooWide_BadRest ?sbInvalidText_BadRest ?sbBadBase_BadTricks ?sbBadTake_BadTricks ?sbBadTimes_BadTricks ?sbBadTrick_BadTricks ?sbBadNumber_BadTricks ?sbBadDivisor_BadTricks ?sbBadFigures_BadTricks ?sbBadWeights_BadTricks ?sbBadSum_BadTricks ?sbBadRests_BadTricks ?sbBadRest_BadTricks ?sbBadTricks_BadTricks ?sbBadPairs_BadTricks ?sbTooWide_BadTricks ?sbInvalidText_BadTricks ?sbBadBase_BadPairs ?sbBadTake_BadPairs ?sbBadTimes_BadPairs ?sbBadTrick_BadPairs ?sbBadNumber_BadPairs ?sbBadDivisor_BadPairs ?sbBadFigures_BadPairs ?sbBadWeights_BadPairs ?sbBadSum_BadPairs ?sbBadRests_BadPairs ?sbBadRest_BadPairs ?sbBadTricks_BadPairs ?sbBadPairs_BadPairs ?sbTooWide_BadPairs ?sbInvalidText_BadPairs ?sbBadBase_TooWide ?sbBadTake_TooWide ?sbBadTimes_TooWide ?sbBadTrick_TooWide ?sbBadNumber_TooWide ?sbBadDivisor_TooWide ?sbBadFigures_TooWide ?sbBadWeights_TooWide ?sbBadSum_TooWide ?sbBadRests_TooWide ?sbBadRest_TooWide ?sbBadTricks_TooWide ?sbBadPairs_TooWide ?sbTooWide_TooWide ?sbInvalidText_TooWide ?sbBadBase_InvalidText ?sbBadTake_InvalidText ?sbBadTimes_InvalidText ?sbBadTrick_InvalidText ?sbBadNumber_InvalidText ?sbBadDivisor_InvalidText ?sbBadFigures_InvalidText ?sbBadWeights_InvalidText ?sbBadSum_InvalidText ?sbBadRests_InvalidText ?sbBadRest_InvalidText ?sbBadTricks_InvalidText ?sbBadPairs_InvalidText ?sbTooWide_InvalidText ?sbInvalidText_InvalidText ?eCTrickError ?tyTrickError ?hdTrickError ?sbBadBase_TrickError ?sbBadTake_TrickError ?sbBadTimes_TrickError ?sbBadTrick_TrickError ?sbBadNumber_TrickError ?sbBadDivisor_TrickError ?sbBadFigures_TrickError ?sbBadWeights_TrickError ?sbBadSum_TrickError ?sbBadRests_TrickError ?sbBadRest_TrickError ?sbBadTricks_TrickError ?sbBadPairs_TrickError ?sbTooWide_TrickError ?sbInvalidText_TrickError ?sbBadBase_BadBase ?sbBadTake_BadBase ?sbBadTimes_BadBase ?sbBadTrick_BadBase ?sbBadNumber_BadBase ?sbBadDivisor_BadBase ?sbBadFigures_BadBase ?sbBadWeights_BadBase ?sbBadSum_BadBase ?sbBadRests_BadBase ?sbBadRest_BadBase ?sbBadTricks_BadBase ?sbBadPairs_BadBase ?sbTooWide_BadBase ?sbInvalidText_BadBase ?sbBadBase_BadTake ?sbBadTake_BadTake ?sbBadTimes_BadTake ?sbBadTrick_BadTake ?sbBadNumber_BadTake ?sbBadDivisor_BadTake ?sbBadFigures_BadTake ?sbBadWeights_BadTake ?sbBadSum_BadTake ?sbBadRests_BadTake ?sbBadRest_BadTake ?sbBadTricks_BadTake ?sbBadPairs_BadTake ?sbTooWide_BadTake ?sbInvalidText_BadTake ?sbBadBase_BadTimes ?sbBadTake_BadTimes ?sbBadTimes_BadTimes ?sbBadTrick_BadTimes ?sbBadNumber_BadTimes ?sbBadDivisor_BadTimes ?sbBadFigures_BadTimes ?sbBadWeights_BadTimes ?sbBadSum_BadTimes ?sbBadRests_BadTimes ?sbBadRest_BadTimes ?sbBadTricks_BadTimes ?sbBadPairs_BadTimes ?sbTooWide_BadTimes ?sbInvalidText_BadTimes ?sbBadBase_BadTrick ?sbBadTake_BadTrick ?sbBadTimes_BadTrick ?sbBadTrick_BadTrick ?sbBadNumber_BadTrick ?sbBadDivisor_BadTrick ?sbBadFigures_BadTrick ?sbBadWeights_BadTrick ?sbBadSum_BadTrick ?sbBadRests_BadTrick ?sbBadRest_BadTrick ?sbBadTricks_BadTrick ?sbBadPairs_BadTrick ?sbTooWide_BadTrick ?sbInvalidText_BadTrick ?sbBadBase_BadNumber ?sbBadTake_BadNumber ?sbBadTimes_BadNumber ?sbBadTrick_BadNumber ?sbBadNumber_BadNumber ?sbBadDivisor_BadNumber ?sbBadFigures_BadNumber ?sbBadWeights_BadNumber ?sbBadSum_BadNumber ?sbBadRests_BadNumber ?sbBadRest_BadNumber ?sbBadTricks_BadNumber ?sbBadPairs_BadNumber ?sbTooWide_BadNumber ?sbInvalidText_BadNumber ?sbBadBase_BadDivisor ?sbBadTake_BadDivisor ?sbBadTimes_BadDivisor ?sbBadTrick_BadDivisor ?sbBadNumber_BadDivisor ?sbBadDivisor_BadDivisor ?sbBadFigures_BadDivisor ?sbBadWeights_BadDivisor ?sbBadSum_BadDivisor ?sbBadRests_BadDivisor ?sbBadRest_BadDivisor ?sbBadTricks_BadDivisor ?sbBadPairs_BadDivisor ?sbTooWide_BadDivisor ?sbInvalidText_BadDivisor ?sbBadBase_BadFigures ?sbBadTake_BadFigures ?sbBadTimes_BadFigures ?sbBadTrick_BadFigures ?sbBadNumber_BadFigures ?sbBadDivisor_BadFigures ?sbBadFigures_BadFigures ?sbBadWeights_BadFigures ?sbBadSum_BadFigures ?sbBadRests_BadFigures ?sbBadRest_BadFigures ?sbBadTricks_BadFigures ?sbBadPairs_BadFigures ?sbTooWide_BadFigures ?sbInvalidText_BadFigures ?sbBadBase_BadWeights ?sbBadTake_BadWeights ?sbBadTimes_BadWeights ?sbBadTrick_BadWeights ?sbBadNumber_BadWeights ?sbBadDivisor_BadWeights ?sbBadFigures_BadWeights ?sbBadWeights_BadWeights ?sbBadSum_BadWeights ?sbBadRests_BadWeights ?sbBadRest_BadWeights ?sbBadTricks_BadWeights ?sbBadPairs_BadWeights ?sbTooWide_BadWeights ?sbInvalidText_BadWeights ?aCTrick ?pgTrick ?hdTrick ?poTrick ?saTrick ?mkTrick ?kcTrick ?icTrick ?tyTrick ?slTrick ?stTrick ?ilTrick ?mcTrick ?nfTrick_basis ?nfTrick_many ?nfTrick_factor ?nfTrick_block ?aCSum ?pgSum ?hdSum ?poSum ?saSum ?mkSum ?kcSum ?icSum ?tySum ?slSum ?stSum ?ilSum ?mcSum ?nfSum_basis ?nfSum_many ?nfSum_begun ?nfSum_again ?nfSum_block ?snA ?tkA ?v_LEAST_BASE ?v_MOST_BASE ?v_MOST_NUMBER ?v_MOST_FIGURES ?v_MOST_DIVISOR ?v_MOST_TAKE ?v_MOST_TIMES ?v_MOST_TRICKS ?v_MOST_WIDE ?v_MOST_CHAIN_DIVISOR ?v_MOST_RESTS ?v_MOST_WEIGHT ?v_MOST_WEIGHTS ?v_MOST_PAIRS ?z_isinstance ?z_int ?z_bool ?z_enumerate ?z_tuple ?z_len ?z_range ?z_list ?z_set ?z_str ?z_all ?z_min
    (case aCTrickError => k_is)
    (case aCBadBase => k_is)
    (case aCBadTake => k_is)
    (case aCBadTimes => k_is)
    (case aCBadTrick => k_is)
    (case aCBadNumber => k_is)
    (case aCBadDivisor => k_is)
    (case aCBadFigures => k_is)
    (case aCBadWeights => k_is)
    (case aCBadSum => k_is)
    (case aCBadRests => k_is)
    (case aCBadRest => k_is)
    (case aCBadTricks => k_is)
    (case aCBadPairs => k_is)
    (case aCTooWide => k_is)
    (case aCInvalidText => k_is)
    (case aCTrick => k_is)
    (case aCSum => k_is)
    (case a0 => k_is)
    (case i0 => k_is)
    (case l0 => k_is)
    (case c0 => k_is)
    (case k0 => k_is)
    (case a1 => k_is)
    (case i1 => k_is)
    (case l1 => k_is)
    (case c1 => k_is)
    (case k1 => k_is)
    (case a2 => k_is)
    (case i2 => k_is)
    (case l2 => k_is)
    (case c2 => k_is)
    (case k2 => k_is)
    (case a3 => k_is)
    (case i3 => k_is)
    (case l3 => k_is)
    (case c3 => k_is)
    (case k3 => k_is)
    (case a4 => k_is)
    (case i4 => k_is)
    (case l4 => k_is)
    (case c4 => k_is)
    (case k4 => k_is)
    (case a5 => k_is)
    (case i5 => k_is)
    (case l5 => k_is)
    (case c5 => k_is)
    (case k5 => k_is)
    (case a6 => k_is)
    (case i6 => k_is)
    (case l6 => k_is)
    (case c6 => k_is)
    (case k6 => k_is)
    (case a7 => k_is)
    (case i7 => k_is)
    (case l7 => k_is)
    (case c7 => k_is)
    (case k7 => k_is)
    (case a8 => k_is)
    (case i8 => k_is)
    (case l8 => k_is)
    (case c8 => k_is)
    (case k8 => k_is)
    (case a9 => k_is)
    (case i9 => k_is)
    (case l9 => k_is)
    (case c9 => k_is)
    (case k9 => k_is)
    (case a10 => k_is)
    (case i10 => k_is)
    (case l10 => k_is)
    (case c10 => k_is)
    (case k10 => k_is)
    (case a11 => k_is)
    (case i11 => k_is)
    (case l11 => k_is)
    (case c11 => k_is)
    (case k11 => k_is)
    (case a12 => k_is)
    (case i12 => k_is)
    (case l12 => k_is)
    (case c12 => k_is)
    (case k12 => k_is)
    (case a13 => k_is)
    (case i13 => k_is)
    (case l13 => k_is)
    (case c13 => k_is)
    (case k13 => k_is)
    (case a14 => k_is)
    (case i14 => k_is)
    (case l14 => k_is)
    (case c14 => k_is)
    (case k14 => k_is)
    (case a15 => k_is)
    (case l15 => k_is)
    (case c15 => k_is)
    (case k15 => k_is)
    (case a16 => k_is)
    (case l16 => k_is)
    (case c16 => k_is)
    (case k16 => k_is)
    (case a17 => k_is)
    (case l17 => k_is)
    (case c17 => k_is)
    (case k17 => k_is)
    (case a18 => k_is)
    (case l18 => k_is)
    (case c18 => k_is)
    (case k18 => k_is)
    (case a19 => k_is)
    (case l19 => k_is)
    (case c19 => k_is)
    (case k19 => k_is)
    (case a20 => k_is)
    (case l20 => k_is)
    (case c20 => k_is)
    (case k20 => k_is)
    (case a21 => k_is)
    (case l21 => k_is)
    (case c21 => k_is)
    (case k21 => k_is)
    (case a22 => k_is)
    (case i22 => k_is)
    (case l22 => k_is)
    (case c22 => k_is)
    (case k22 => k_is)
    (case a23 => k_is)
    (case l23 => k_is)
    (case c23 => k_is)
    (case k23 => k_is)
    (case a24 => k_is)
    (case l24 => k_is)
    (case c24 => k_is)
    (case k24 => k_is)
    (case a25 => k_is)
    (case l25 => k_is)
    (case c25 => k_is)
    (case k25 => k_is)
    (case a26 => k_is)
    (case l26 => k_is)
    (case c26 => k_is)
    (case k26 => k_is)
    (case a27 => k_is)
    (case l27 => k_is)
    (case c27 => k_is)
    (case k27 => k_is)
    (case a28 => k_is)
    (case l28 => k_is)
    (case c28 => k_is)
    (case k28 => k_is)
    (case a29 => k_is)
    (case l29 => k_is)
    (case c29 => k_is)
    (case k29 => k_is)
    (case a30 => k_is)
    (case l30 => k_is)
    (case c30 => k_is)
    (case k30 => k_is)
    (case a31 => k_is)
    (case l31 => k_is)
    (case c31 => k_is)
    (case k31 => k_is)
    (case a32 => k_is)
    (case l32 => k_is)
    (case c32 => k_is)
    (case k32 => k_is)
    (case a33 => k_is)
    (case l33 => k_is)
    (case c33 => k_is)
    (case k33 => k_is)
    (case a34 => k_is)
    (case l34 => k_is)
    (case c34 => k_is)
    (case k34 => k_is)
    (case a35 => k_is)
    (case i35 => k_is)
    (case l35 => k_is)
    (case c35 => k_is)
    (case k35 => k_is)
    (case a36 => k_is)
    (case l36 => k_is)
    (case c36 => k_is)
    (case k36 => k_is)
    (case a37 => k_is)
    (case l37 => k_is)
    (case c37 => k_is)
    (case k37 => k_is)
    (case a38 => k_is)
    (case l38 => k_is)
    (case c38 => k_is)
    (case k38 => k_is)
    (case a39 => k_is)
    (case l39 => k_is)
    (case c39 => k_is)
    (case k39 => k_is)
    (case a40 => k_is)
    (case l40 => k_is)
    (case c40 => k_is)
    (case k40 => k_is)
    (case a41 => k_is)
    (case l41 => k_is)
    (case c41 => k_is)
    (case k41 => k_is)
    (case a42 => k_is)
    (case l42 => k_is)
    (case c42 => k_is)
    (case k42 => k_is)
    (case a43 => k_is)
    (case l43 => k_is)
    (case c43 => k_is)
    (case k43 => k_is)
    (case a44 => k_is)
    (case l44 => k_is)
    (case c44 => k_is)
    (case k44 => k_is)
    (case a45 => k_is)
    (case l45 => k_is)
    (case c45 => k_is)
    (case k45 => k_is)
    (case a46 => k_is)
    (case l46 => k_is)
    (case c46 => k_is)
    (case k46 => k_is)
    (case a47 => k_is)
    (case l47 => k_is)
    (case c47 => k_is)
    (case k47 => k_is)
    (case a48 => k_is)
    (case l48 => k_is)
    (case c48 => k_is)
    (case k48 => k_is)
    (case rdTrickError => k_is)
    (case gtTrickError => k_is)
    (case fcTrickError => k_is)
    (case xLBadBase => k_is)
    (case saBadBase => k_is)
    (case eCBadBase => k_is)
    (case tyBadBase => k_is)
    (case kcBadBase => k_is)
    (case gaBadBase => k_is)
    (case ggBadBase => k_is)
    (case hdBadBase => k_is)
    (case xLBadTake => k_is)
    (case saBadTake => k_is)
    (case eCBadTake => k_is)
    (case tyBadTake => k_is)
    (case kcBadTake => k_is)
    (case gaBadTake => k_is)
    (case ggBadTake => k_is)
    (case hdBadTake => k_is)
    (case xLBadTimes => k_is)
    (case saBadTimes => k_is)
    (case eCBadTimes => k_is)
    (case tyBadTimes => k_is)
    (case kcBadTimes => k_is)
    (case gaBadTimes => k_is)
    (case ggBadTimes => k_is)
    (case hdBadTimes => k_is)
    (case xLBadTrick => k_is)
    (case saBadTrick => k_is)
    (case eCBadTrick => k_is)
    (case tyBadTrick => k_is)
    (case kcBadTrick => k_is)
    (case gaBadTrick => k_is)
    (case ggBadTrick => k_is)
    (case hdBadTrick => k_is)
    (case xLBadNumber => k_is)
    (case saBadNumber => k_is)
    (case eCBadNumber => k_is)
    (case tyBadNumber => k_is)
    (case kcBadNumber => k_is)
    (case gaBadNumber => k_is)
    (case ggBadNumber => k_is)
    (case hdBadNumber => k_is)
    (case nfBadNumber_n => k_is)
    (case xLBadDivisor => k_is)
    (case saBadDivisor => k_is)
    (case eCBadDivisor => k_is)
    (case tyBadDivisor => k_is)
    (case kcBadDivisor => k_is)
    (case gaBadDivisor => k_is)
    (case ggBadDivisor => k_is)
    (case hdBadDivisor => k_is)
    (case xLBadFigures => k_is)
    (case saBadFigures => k_is)
    (case eCBadFigures => k_is)
    (case tyBadFigures => k_is)
    (case kcBadFigures => k_is)
    (case gaBadFigures => k_is)
    (case ggBadFigures => k_is)
    (case hdBadFigures => k_is)
    (case nfBadFigures_index => k_is)
    (case xLBadWeights => k_is)
    (case saBadWeights => k_is)
    (case eCBadWeights => k_is)
    (case tyBadWeights => k_is)
    (case kcBadWeights => k_is)
    (case gaBadWeights => k_is)
    (case ggBadWeights => k_is)
    (case hdBadWeights => k_is)
    (case nfBadWeights_index => k_is)
    (case xLBadSum => k_is)
    (case saBadSum => k_is)
    (case eCBadSum => k_is)
    (case tyBadSum => k_is)
    (case kcBadSum => k_is)
    (case gaBadSum => k_is)
    (case ggBadSum => k_is)
    (case hdBadSum => k_is)
    (case xLBadRests => k_is)
    (case saBadRests => k_is)
    (case eCBadRests => k_is)
    (case tyBadRests => k_is)
    (case kcBadRests => k_is)
    (case gaBadRests => k_is)
    (case ggBadRests => k_is)
    (case hdBadRests => k_is)
    (case nfBadRests_index => k_is)
    (case xLBadRest => k_is)
    (case saBadRest => k_is)
    (case eCBadRest => k_is)
    (case tyBadRest => k_is)
    (case kcBadRest => k_is)
    (case gaBadRest => k_is)
    (case ggBadRest => k_is)
    (case hdBadRest => k_is)
    (case xLBadTricks => k_is)
    (case saBadTricks => k_is)
    (case eCBadTricks => k_is)
    (case tyBadTricks => k_is)
    (case kcBadTricks => k_is)
    (case gaBadTricks => k_is)
    (case ggBadTricks => k_is)
    (case hdBadTricks => k_is)
    (case nfBadTricks_index => k_is)
    (case xLBadPairs => k_is)
    (case saBadPairs => k_is)
    (case eCBadPairs => k_is)
    (case tyBadPairs => k_is)
    (case kcBadPairs => k_is)
    (case gaBadPairs => k_is)
    (case ggBadPairs => k_is)
    (case hdBadPairs => k_is)
    (case nfBadPairs_index => k_is)
    (case xLTooWide => k_is)
    (case saTooWide => k_is)
    (case eCTooWide => k_is)
    (case tyTooWide => k_is)
    (case kcTooWide => k_is)
    (case gaTooWide => k_is)
    (case ggTooWide => k_is)
    (case hdTooWide => k_is)
    (case nfTooWide_most => k_is)
    (case xLInvalidText => k_is)
    (case saInvalidText => k_is)
    (case eCInvalidText => k_is)
    (case tyInvalidText => k_is)
    (case kcInvalidText => k_is)
    (case gaInvalidText => k_is)
    (case ggInvalidText => k_is)
    (case hdInvalidText => k_is)
    (case nfInvalidText_word => k_is)
    (case sbBadBase_BadSum => k_is)
    (case sbBadTake_BadSum => k_is)
    (case sbBadTimes_BadSum => k_is)
    (case sbBadTrick_BadSum => k_is)
    (case sbBadNumber_BadSum => k_is)
    (case sbBadDivisor_BadSum => k_is)
    (case sbBadFigures_BadSum => k_is)
    (case sbBadWeights_BadSum => k_is)
    (case sbBadSum_BadSum => k_is)
    (case sbBadRests_BadSum => k_is)
    (case sbBadRest_BadSum => k_is)
    (case sbBadTricks_BadSum => k_is)
    (case sbBadPairs_BadSum => k_is)
    (case sbTooWide_BadSum => k_is)
    (case sbInvalidText_BadSum => k_is)
    (case sbBadBase_BadRests => k_is)
    (case sbBadTake_BadRests => k_is)
    (case sbBadTimes_BadRests => k_is)
    (case sbBadTrick_BadRests => k_is)
    (case sbBadNumber_BadRests => k_is)
    (case sbBadDivisor_BadRests => k_is)
    (case sbBadFigures_BadRests => k_is)
    (case sbBadWeights_BadRests => k_is)
    (case sbBadSum_BadRests => k_is)
    (case sbBadRests_BadRests => k_is)
    (case sbBadRest_BadRests => k_is)
    (case sbBadTricks_BadRests => k_is)
    (case sbBadPairs_BadRests => k_is)
    (case sbTooWide_BadRests => k_is)
    (case sbInvalidText_BadRests => k_is)
    (case sbBadBase_BadRest => k_is)
    (case sbBadTake_BadRest => k_is)
    (case sbBadTimes_BadRest => k_is)
    (case sbBadTrick_BadRest => k_is)
    (case sbBadNumber_BadRest => k_is)
    (case sbBadDivisor_BadRest => k_is)
    (case sbBadFigures_BadRest => k_is)
    (case sbBadWeights_BadRest => k_is)
    (case sbBadSum_BadRest => k_is)
    (case sbBadRests_BadRest => k_is)
    (case sbBadRest_BadRest => k_is)
    (case sbBadTricks_BadRest => k_is)
    (case sbBadPairs_BadRest => k_is)
    (case sbTooWide_BadRest => k_is)
    (case sbInvalidText_BadRest => k_is)
    (case sbBadBase_BadTricks => k_is)
    (case sbBadTake_BadTricks => k_is)
    (case sbBadTimes_BadTricks => k_is)
    (case sbBadTrick_BadTricks => k_is)
    (case sbBadNumber_BadTricks => k_is)
    (case sbBadDivisor_BadTricks => k_is)
    (case sbBadFigures_BadTricks => k_is)
    (case sbBadWeights_BadTricks => k_is)
    (case sbBadSum_BadTricks => k_is)
    (case sbBadRests_BadTricks => k_is)
    (case sbBadRest_BadTricks => k_is)
    (case sbBadTricks_BadTricks => k_is)
    (case sbBadPairs_BadTricks => k_is)
    (case sbTooWide_BadTricks => k_is)
    (case sbInvalidText_BadTricks => k_is)
    (case sbBadBase_BadPairs => k_is)
    (case sbBadTake_BadPairs => k_is)
    (case sbBadTimes_BadPairs => k_is)
    (case sbBadTrick_BadPairs => k_is)
    (case sbBadNumber_BadPairs => k_is)
    (case sbBadDivisor_BadPairs => k_is)
    (case sbBadFigures_BadPairs => k_is)
    (case sbBadWeights_BadPairs => k_is)
    (case sbBadSum_BadPairs => k_is)
    (case sbBadRests_BadPairs => k_is)
    (case sbBadRest_BadPairs => k_is)
    (case sbBadTricks_BadPairs => k_is)
    (case sbBadPairs_BadPairs => k_is)
    (case sbTooWide_BadPairs => k_is)
    (case sbInvalidText_BadPairs => k_is)
    (case sbBadBase_TooWide => k_is)
    (case sbBadTake_TooWide => k_is)
    (case sbBadTimes_TooWide => k_is)
    (case sbBadTrick_TooWide => k_is)
    (case sbBadNumber_TooWide => k_is)
    (case sbBadDivisor_TooWide => k_is)
    (case sbBadFigures_TooWide => k_is)
    (case sbBadWeights_TooWide => k_is)
    (case sbBadSum_TooWide => k_is)
    (case sbBadRests_TooWide => k_is)
    (case sbBadRest_TooWide => k_is)
    (case sbBadTricks_TooWide => k_is)
    (case sbBadPairs_TooWide => k_is)
    (case sbTooWide_TooWide => k_is)
    (case sbInvalidText_TooWide => k_is)
    (case sbBadBase_InvalidText => k_is)
    (case sbBadTake_InvalidText => k_is)
    (case sbBadTimes_InvalidText => k_is)
    (case sbBadTrick_InvalidText => k_is)
    (case sbBadNumber_InvalidText => k_is)
    (case sbBadDivisor_InvalidText => k_is)
    (case sbBadFigures_InvalidText => k_is)
    (case sbBadWeights_InvalidText => k_is)
    (case sbBadSum_InvalidText => k_is)
    (case sbBadRests_InvalidText => k_is)
    (case sbBadRest_InvalidText => k_is)
    (case sbBadTricks_InvalidText => k_is)
    (case sbBadPairs_InvalidText => k_is)
    (case sbTooWide_InvalidText => k_is)
    (case sbInvalidText_InvalidText => k_is)
    (case eCTrickError => k_is)
    (case tyTrickError => k_is)
    (case hdTrickError => k_is)
    (case sbBadBase_TrickError => k_is)
    (case sbBadTake_TrickError => k_is)
    (case sbBadTimes_TrickError => k_is)
    (case sbBadTrick_TrickError => k_is)
    (case sbBadNumber_TrickError => k_is)
    (case sbBadDivisor_TrickError => k_is)
    (case sbBadFigures_TrickError => k_is)
    (case sbBadWeights_TrickError => k_is)
    (case sbBadSum_TrickError => k_is)
    (case sbBadRests_TrickError => k_is)
    (case sbBadRest_TrickError => k_is)
    (case sbBadTricks_TrickError => k_is)
    (case sbBadPairs_TrickError => k_is)
    (case sbTooWide_TrickError => k_is)
    (case sbInvalidText_TrickError => k_is)
    (case sbBadBase_BadBase => k_is)
    (case sbBadTake_BadBase => k_is)
    (case sbBadTimes_BadBase => k_is)
    (case sbBadTrick_BadBase => k_is)
    (case sbBadNumber_BadBase => k_is)
    (case sbBadDivisor_BadBase => k_is)
    (case sbBadFigures_BadBase => k_is)
    (case sbBadWeights_BadBase => k_is)
    (case sbBadSum_BadBase => k_is)
    (case sbBadRests_BadBase => k_is)
    (case sbBadRest_BadBase => k_is)
    (case sbBadTricks_BadBase => k_is)
    (case sbBadPairs_BadBase => k_is)
    (case sbTooWide_BadBase => k_is)
    (case sbInvalidText_BadBase => k_is)
    (case sbBadBase_BadTake => k_is)
    (case sbBadTake_BadTake => k_is)
    (case sbBadTimes_BadTake => k_is)
    (case sbBadTrick_BadTake => k_is)
    (case sbBadNumber_BadTake => k_is)
    (case sbBadDivisor_BadTake => k_is)
    (case sbBadFigures_BadTake => k_is)
    (case sbBadWeights_BadTake => k_is)
    (case sbBadSum_BadTake => k_is)
    (case sbBadRests_BadTake => k_is)
    (case sbBadRest_BadTake => k_is)
    (case sbBadTricks_BadTake => k_is)
    (case sbBadPairs_BadTake => k_is)
    (case sbTooWide_BadTake => k_is)
    (case sbInvalidText_BadTake => k_is)
    (case sbBadBase_BadTimes => k_is)
    (case sbBadTake_BadTimes => k_is)
    (case sbBadTimes_BadTimes => k_is)
    (case sbBadTrick_BadTimes => k_is)
    (case sbBadNumber_BadTimes => k_is)
    (case sbBadDivisor_BadTimes => k_is)
    (case sbBadFigures_BadTimes => k_is)
    (case sbBadWeights_BadTimes => k_is)
    (case sbBadSum_BadTimes => k_is)
    (case sbBadRests_BadTimes => k_is)
    (case sbBadRest_BadTimes => k_is)
    (case sbBadTricks_BadTimes => k_is)
    (case sbBadPairs_BadTimes => k_is)
    (case sbTooWide_BadTimes => k_is)
    (case sbInvalidText_BadTimes => k_is)
    (case sbBadBase_BadTrick => k_is)
    (case sbBadTake_BadTrick => k_is)
    (case sbBadTimes_BadTrick => k_is)
    (case sbBadTrick_BadTrick => k_is)
    (case sbBadNumber_BadTrick => k_is)
    (case sbBadDivisor_BadTrick => k_is)
    (case sbBadFigures_BadTrick => k_is)
    (case sbBadWeights_BadTrick => k_is)
    (case sbBadSum_BadTrick => k_is)
    (case sbBadRests_BadTrick => k_is)
    (case sbBadRest_BadTrick => k_is)
    (case sbBadTricks_BadTrick => k_is)
    (case sbBadPairs_BadTrick => k_is)
    (case sbTooWide_BadTrick => k_is)
    (case sbInvalidText_BadTrick => k_is)
    (case sbBadBase_BadNumber => k_is)
    (case sbBadTake_BadNumber => k_is)
    (case sbBadTimes_BadNumber => k_is)
    (case sbBadTrick_BadNumber => k_is)
    (case sbBadNumber_BadNumber => k_is)
    (case sbBadDivisor_BadNumber => k_is)
    (case sbBadFigures_BadNumber => k_is)
    (case sbBadWeights_BadNumber => k_is)
    (case sbBadSum_BadNumber => k_is)
    (case sbBadRests_BadNumber => k_is)
    (case sbBadRest_BadNumber => k_is)
    (case sbBadTricks_BadNumber => k_is)
    (case sbBadPairs_BadNumber => k_is)
    (case sbTooWide_BadNumber => k_is)
    (case sbInvalidText_BadNumber => k_is)
    (case sbBadBase_BadDivisor => k_is)
    (case sbBadTake_BadDivisor => k_is)
    (case sbBadTimes_BadDivisor => k_is)
    (case sbBadTrick_BadDivisor => k_is)
    (case sbBadNumber_BadDivisor => k_is)
    (case sbBadDivisor_BadDivisor => k_is)
    (case sbBadFigures_BadDivisor => k_is)
    (case sbBadWeights_BadDivisor => k_is)
    (case sbBadSum_BadDivisor => k_is)
    (case sbBadRests_BadDivisor => k_is)
    (case sbBadRest_BadDivisor => k_is)
    (case sbBadTricks_BadDivisor => k_is)
    (case sbBadPairs_BadDivisor => k_is)
    (case sbTooWide_BadDivisor => k_is)
    (case sbInvalidText_BadDivisor => k_is)
    (case sbBadBase_BadFigures => k_is)
    (case sbBadTake_BadFigures => k_is)
    (case sbBadTimes_BadFigures => k_is)
    (case sbBadTrick_BadFigures => k_is)
    (case sbBadNumber_BadFigures => k_is)
    (case sbBadDivisor_BadFigures => k_is)
    (case sbBadFigures_BadFigures => k_is)
    (case sbBadWeights_BadFigures => k_is)
    (case sbBadSum_BadFigures => k_is)
    (case sbBadRests_BadFigures => k_is)
    (case sbBadRest_BadFigures => k_is)
    (case sbBadTricks_BadFigures => k_is)
    (case sbBadPairs_BadFigures => k_is)
    (case sbTooWide_BadFigures => k_is)
    (case sbInvalidText_BadFigures => k_is)
    (case sbBadBase_BadWeights => k_is)
    (case sbBadTake_BadWeights => k_is)
    (case sbBadTimes_BadWeights => k_is)
    (case sbBadTrick_BadWeights => k_is)
    (case sbBadNumber_BadWeights => k_is)
    (case sbBadDivisor_BadWeights => k_is)
    (case sbBadFigures_BadWeights => k_is)
    (case sbBadWeights_BadWeights => k_is)
    (case sbBadSum_BadWeights => k_is)
    (case sbBadRests_BadWeights => k_is)
    (case sbBadRest_BadWeights => k_is)
    (case sbBadTricks_BadWeights => k_is)
    (case sbBadPairs_BadWeights => k_is)
    (case sbTooWide_BadWeights => k_is)
    (case sbInvalidText_BadWeights => k_is)
    (case pgTrick => k_is)
    (case hdTrick => k_is)
    (case poTrick => k_is)
    (case saTrick => k_is)
    (case mkTrick => k_is)
    (case kcTrick => k_is)
    (case icTrick => k_is)
    (case tyTrick => k_is)
    (case slTrick => k_is)
    (case stTrick => k_is)
    (case ilTrick => k_is)
    (case mcTrick => k_is)
    (case nfTrick_basis => k_is)
    (case nfTrick_many => k_is)
    (case nfTrick_factor => k_is)
    (case nfTrick_block => k_is)
    (case pgSum => k_is)
    (case hdSum => k_is)
    (case poSum => k_is)
    (case saSum => k_is)
    (case mkSum => k_is)
    (case kcSum => k_is)
    (case icSum => k_is)
    (case tySum => k_is)
    (case slSum => k_is)
    (case stSum => k_is)
    (case ilSum => k_is)
    (case mcSum => k_is)
    (case nfSum_basis => k_is)
    (case nfSum_many => k_is)
    (case nfSum_begun => k_is)
    (case nfSum_again => k_is)
    (case nfSum_block => k_is)
    (case snA => k_is)
    (case tkA => k_is)
    (case v_LEAST_BASE => k_is)
    (case v_MOST_BASE => k_is)
    (case v_MOST_NUMBER => k_is)
    (case v_MOST_FIGURES => k_is)
    (case v_MOST_DIVISOR => k_is)
    (case v_MOST_TAKE => k_is)
    (case v_MOST_TIMES => k_is)
    (case v_MOST_TRICKS => k_is)
    (case v_MOST_WIDE => k_is)
    (case v_MOST_CHAIN_DIVISOR => k_is)
    (case v_MOST_RESTS => k_is)
    (case v_MOST_WEIGHT => k_is)
    (case v_MOST_WEIGHTS => k_is)
    (case v_MOST_PAIRS => k_is)
    (case z_isinstance => k_is)
    (case z_int => k_is)
    (case z_bool => k_is)
    (case z_enumerate => k_is)
    (case z_tuple => k_is)
    (case z_len => k_is)
    (case z_range => k_is)
    (case z_list => k_is)
    (case z_set => k_is)
    (case z_str => k_is)
    (case z_all => k_is)
    (case z_min => k_is)
