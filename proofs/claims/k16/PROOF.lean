import PyProof.Rows.All
import Wide.All
import OpenK.AllK
import Wide.FinOn
import HandS.ForMost
import HandS.IsInst
import HandS.Wide
import HandS.Steps
import HandS.Style
import HandS.TupAny
import HandS.Codes
import HandS.SortInts
import HandS.TryOnly
import HandS.TryMany
import HandS.ExcOwn
import HandS.ExcInit
import HandS.ExcField
import HandS.ExcIs
import HandS.WordsExc
import HandS.DeepEq
import HandS.Walk
import KE.GoesEnum
import HandS.TupMul
import HandS.Property
import PySem.Challenge.RW_resttricks_k16_sums_refused
set_option Elab.async false
set_option linter.all false
set_option maxRecDepth 100000
set_option maxHeartbeats 4000000
/-! ## the layer: what is owned, step by step -/
namespace R
open PySem PySem.Spec PyProof.Rows L2
open PySem.W (Frag)

def del1 (H : Hp) (a : Addr) : Hp := fun b => if b = a then none else H b
/-- B: what stays; Lw: what this frame may change, as it stands -/
structure Own (B : Hp) (Lw : List (Addr × HO)) (H : Hp) : Prop where
  st : ∀ a o, B a = some o → H a = some o
  ow : ∀ p ∈ Lw, H p.1 = some p.2
  no : ∀ p ∈ Lw, B p.1 = none
  nd : (Lw.map (·.1)).Nodup
theorem Own.refl (H : Hp) : Own H [] H := ⟨fun _ _ h => h, fun _ h => by simp at h, fun _ h => by simp at h, by simp⟩
theorem Own.refl1 {H : Hp} {a : Addr} {o : HO} (h : H a = some o) : Own (del1 H a) [(a, o)] H := by
  refine ⟨fun b u e => ?_, fun p hp => ?_, fun p hp => ?_, by simp⟩
  · unfold del1 at e
    split at e
    · cases e
    · exact e
  · have e : p = (a, o) := by simpa using hp
    rw [e]; exact h
  · have e : p = (a, o) := by simpa using hp
    rw [e]; unfold del1; rw [if_pos rfl]
section
variable {B H H' : Hp} {Lw : List (Addr × HO)} {a b p : Addr} {o u : HO} {K : Frag} {xs : List V}
theorem Own.get (O : Own B Lw H) (i : Nat) (h : Lw[i]? = some (a, o)) : H a = some o := O.ow (a, o) (List.mem_of_getElem? h)
theorem Own.gone (O : Own B Lw H) (i : Nat) (h : Lw[i]? = some (a, o)) : B a = none := O.no (a, o) (List.mem_of_getElem? h)
theorem Own.seq (O : Own B Lw H) (h : SqL K B a xs) : SqL K H a xs := by
  rcases h with (h | ⟨q, h⟩) | h
  · exact .inl (.inl (O.st _ _ h))
  · exact .inl (.inr ⟨q, O.st _ _ h⟩)
  · exact .inr h
theorem Own.tup (O : Own B Lw H) (h : SqT K B a xs) : SqT K H a xs := by
  rcases h with (h | ⟨q, h⟩) | h
  · exact .inl (.inl (O.st _ _ h))
  · exact .inl (.inr ⟨q, O.st _ _ h⟩)
  · exact .inr h
theorem Own.sq (O : Own B Lw H) (i : Nat) (h : Lw[i]? = some (a, .lst xs)) : SqL K H a xs := SqL.of (O.get i h)
theorem Own.tq (O : Own B Lw H) (i : Nat) (h : Lw[i]? = some (a, .tup xs)) : SqT K H a xs := SqT.of (O.get i h)
theorem Own.free (O : Own B Lw H) (h : H p = none) : B p = none := by
  cases q : B p with
  | none => rfl
  | some v => rw [O.st _ _ q] at h; cases h
theorem Own.out (O : Own B Lw H) (h : H p = none) : ∀ q ∈ Lw, q.1 ≠ p := fun q hq z => by
  have e := O.ow q hq
  rw [z, h] at e; cases e
/-- a new object -/
theorem Own.new (O : Own B Lw H) (h : H p = none) : Own B ((p, o) :: Lw) (upd H p o) := by
  refine ⟨fun c v e => ?_, fun q hq => ?_, fun q hq => ?_, ?_⟩
  · rw [upd_ne (ne_of_none (O.st _ _ e) h)]; exact O.st _ _ e
  · rcases List.mem_cons.mp hq with rfl | hq
    · exact upd_same
    · show upd H p o q.1 = _
      rw [upd_ne (O.out h q hq)]; exact O.ow q hq
  · rcases List.mem_cons.mp hq with rfl | hq
    · exact O.free h
    · exact O.no q hq
  · rw [List.map_cons, List.nodup_cons]
    refine ⟨fun z => ?_, O.nd⟩
    obtain ⟨q, hq, e⟩ := List.mem_map.mp z
    exact O.out h q hq e
theorem set_map1 : ∀ {Lw : List (Addr × HO)} {i : Nat} {a : Addr} {o o' : HO}, Lw[i]? = some (a, o) → (Lw.set i (a, o')).map (·.1) = Lw.map (·.1)
  | [], _, _, _, _, h => by simp at h
  | x :: r, 0, a, o, o', h => by
    have e : x = (a, o) := by simpa using h
    rw [e]; rfl
  | x :: r, i + 1, a, o, o', h => by
    have ih := set_map1 (Lw := r) (i := i) (o' := o') (by simpa using h)
    show x.1 :: (r.set i (a, o')).map (·.1) = x.1 :: r.map (·.1)
    rw [ih]
theorem mem_set1 : ∀ {Lw : List (Addr × HO)} {i : Nat} {a : Addr} {o o' : HO} {q : Addr × HO}, (Lw.map (·.1)).Nodup → Lw[i]? = some (a, o) → q ∈ Lw.set i (a, o') → q = (a, o') ∨ (q ∈ Lw ∧ q.1 ≠ a)
  | [], _, _, _, _, _, _, h, _ => by simp at h
  | x :: r, 0, a, o, o', q, nd, h, hq => by
    have e : x = (a, o) := by simpa using h
    subst e
    rw [List.map_cons, List.nodup_cons] at nd
    rcases List.mem_cons.mp hq with rfl | hq
    · exact .inl rfl
    · exact .inr ⟨List.mem_cons_of_mem _ hq, fun z => nd.1 (List.mem_map.mpr ⟨q, hq, z⟩)⟩
  | x :: r, i + 1, a, o, o', q, nd, h, hq => by
    rw [List.map_cons, List.nodup_cons] at nd
    have h' : r[i]? = some (a, o) := by simpa using h
    rcases List.mem_cons.mp (show q ∈ x :: r.set i (a, o') from hq) with rfl | hq
    · refine .inr ⟨List.mem_cons_self, fun z => nd.1 (List.mem_map.mpr ⟨(a, o), List.mem_of_getElem? h', z.symm⟩)⟩
    · rcases mem_set1 nd.2 h' hq with z | ⟨z1, z2⟩
      · exact .inl z
      · exact .inr ⟨List.mem_cons_of_mem _ z1, z2⟩
/-- what is owned is changed by someone who keeps all else -/
theorem Own.but (O : Own B Lw H) (i : Nat) (h : Lw[i]? = some (a, o)) (k : ∀ b v, b ≠ a → H b = some v → H' b = some v) (ha : H' a = some u) : Own B (Lw.set i (a, u)) H' := by
  have hB := O.gone i h
  refine ⟨fun c v e => k c v (fun z => ?_) (O.st _ _ e), fun q hq => ?_, fun q hq => ?_, ?_⟩
  · rw [z, hB] at e; cases e
  · rcases mem_set1 O.nd h hq with rfl | ⟨h1, h2⟩
    · exact ha
    · exact k _ _ h2 (O.ow q h1)
  · rcases mem_set1 O.nd h hq with rfl | ⟨h1, h2⟩
    · exact hB
    · exact O.no q h1
  · rw [set_map1 h]; exact O.nd
theorem Own.put (O : Own B Lw H) (i : Nat) (h : Lw[i]? = some (a, o)) : Own B (Lw.set i (a, u)) (upd H a u) :=
  O.but i h (fun b v hb e => by rw [upd_ne hb]; exact e) upd_same
/-- more stands now -/
theorem Own.same (O : Own B Lw H) (s : Same H H') : Own B Lw H' := ⟨fun c v e => s _ _ (O.st _ _ e), fun q hq => s _ _ (O.ow q hq), O.no, O.nd⟩
theorem Own.tail {x : Addr × HO} (O : Own B (x :: Lw) H) : Own B Lw H := ⟨O.st, fun q hq => O.ow q (List.mem_cons_of_mem _ hq), fun q hq => O.no q (List.mem_cons_of_mem _ hq), (List.nodup_cons.mp (by simpa using O.nd)).2⟩
theorem Own.tail2 {x y : Addr × HO} (O : Own B (y :: x :: Lw) H) : Own B (y :: Lw) H := by
  have hn := O.nd
  simp only [List.map_cons, List.nodup_cons, List.mem_cons, not_or] at hn
  refine ⟨O.st, fun q hq => O.ow q ?_, fun q hq => O.no q ?_, ?_⟩
  · rcases List.mem_cons.mp hq with rfl | hq
    · exact List.mem_cons_self
    · exact List.mem_cons_of_mem _ (List.mem_cons_of_mem _ hq)
  · rcases List.mem_cons.mp hq with rfl | hq
    · exact List.mem_cons_self
    · exact List.mem_cons_of_mem _ (List.mem_cons_of_mem _ hq)
  · simp only [List.map_cons, List.nodup_cons]
    exact ⟨hn.1.2, hn.2.2⟩
theorem Own.toSame (O : Own H Lw H') : Same H H' := O.st
/-- at the end: all but a is as it was -/
theorem Own.toBut (O : Own (del1 H a) Lw H') : ∀ b v, b ≠ a → H b = some v → H' b = some v := fun b v hb e => O.st b v (by unfold del1; rw [if_neg hb]; exact e)
theorem del1_seq {o : HO} (h : SqL K H b xs) (ha : H a = some o) (ho : ∀ ys, o ≠ .lst ys ∨ b ≠ a) (hf : ∀ q w, o ≠ .frz q w) (hb : b ≠ a) : SqL K (del1 H a) b xs := by
  rcases h with (h | ⟨q, h⟩) | h
  · exact .inl (.inl (by unfold del1; rw [if_neg hb]; exact h))
  · exact .inl (.inr ⟨q, by unfold del1; rw [if_neg hb]; exact h⟩)
  · exact .inr h
theorem del1_ne {H : Hp} {a b : Addr} (h : b ≠ a) : del1 H a b = H b := by unfold del1; rw [if_neg h]
end
end R
namespace R
open PySem L2
theorem Own.swap {B H : Hp} {Lw : List (Addr × HO)} {x y : Addr × HO} (O : Own B (x :: y :: Lw) H) : Own B (y :: x :: Lw) H := by
  refine ⟨O.st, fun q hq => O.ow q ?_, fun q hq => O.no q ?_, ?_⟩
  · simp only [List.mem_cons] at hq ⊢
    rcases hq with z | z | z
    · exact .inr (.inl z)
    · exact .inl z
    · exact .inr (.inr z)
  · simp only [List.mem_cons] at hq ⊢
    rcases hq with z | z | z
    · exact .inr (.inl z)
    · exact .inl z
    · exact .inr (.inr z)
  · have h := O.nd
    simp only [List.map_cons, List.nodup_cons, List.mem_cons, not_or] at h ⊢
    exact ⟨⟨fun z => h.1.1 z.symm, h.2.1⟩, h.1.2, h.2.2⟩
end R
namespace R
open PySem L2
open PySem.W (Frag)
section
variable {B H H' : Hp} {Lw : List (Addr × HO)} {p : Addr} {o : HO} {K : Frag}
/-- what is owned is let stand for good -/
theorem Own.fix (O : Own B ((p, o) :: Lw) H) : Own (upd B p o) Lw H := by
  have hn := O.nd
  simp only [List.map_cons, List.nodup_cons] at hn
  refine ⟨fun a v e => ?_, fun q hq => O.ow q (List.mem_cons_of_mem _ hq), fun q hq => ?_, hn.2⟩
  · by_cases h : a = p
    · subst h
      rw [upd_same] at e
      rw [← e]
      exact O.ow (a, o) List.mem_cons_self
    · rw [upd_ne h] at e; exact O.st _ _ e
  · have ne : q.1 ≠ p := fun z => hn.1 (List.mem_map.mpr ⟨q, hq, z⟩)
    rw [upd_ne ne]; exact O.no q (List.mem_cons_of_mem _ hq)
theorem Own.fixS (O : Own B ((p, o) :: Lw) H) : Same B (upd B p o) := fun b v e => by
  have h : B p = none := O.no (p, o) List.mem_cons_self
  rw [upd_ne (ne_of_none e h)]; exact e
theorem Own.sub {B' : Hp} (O : Own B' Lw H) (s : Same B B') : Own B Lw H := ⟨fun a v e => O.st _ _ (s _ _ e), O.ow, fun q hq => s.free (O.no q hq), O.nd⟩
end
mutual
theorem dp_same {K : Frag} {H H' : Hp} (s : Same H H') : ∀ (d : PyData) (v : V), Dp K H v d → Dp K H' v d
  | .none, _, h => by cases h; exact .non
  | .bool b, _, h => by cases h; exact .bl b
  | .int i, _, h => by cases h; exact .int i
  | .str x, _, h => by cases h; exact .str x
  | .list ds, _, h => by
    cases h with
    | lst h1 h2 => exact .lst (s.seq h1) (dpAll_same s ds _ h2)
  | .tuple ds, _, h => by
    cases h with
    | tup h1 h2 =>
      refine .tup ?_ (dpAll_same s ds _ h2)
      rcases h1 with (h | ⟨q, h⟩) | h
      · exact .inl (.inl (s _ _ h))
      · exact .inl (.inr ⟨q, s _ _ h⟩)
      · exact .inr h
  | .dict _, _, h => by cases h
theorem dpAll_same {K : Frag} {H H' : Hp} (s : Same H H') : ∀ (ds : List PyData) (vs : List V), DpAll K H vs ds → DpAll K H' vs ds
  | [], _, h => by cases h; exact .nil
  | d :: ds, _, h => by
    cases h with
    | cons h1 h2 => exact .cons (dp_same s d _ h1) (dpAll_same s ds _ h2)
end
end R
namespace R
open PySem L2
theorem Own.got {B H H' : Hp} {Lw : List (Addr × HO)} {p : Addr} {o : HO} (O : Own B Lw H) (s : Same H H') (h : H p = none) (h' : H' p = some o) : Own B ((p, o) :: Lw) H' := by
  have O1 := O.same s
  refine ⟨O1.st, fun q hq => ?_, fun q hq => ?_, ?_⟩
  · rcases List.mem_cons.mp hq with rfl | hq
    · exact h'
    · exact O1.ow q hq
  · rcases List.mem_cons.mp hq with rfl | hq
    · exact O.free h
    · exact O1.no q hq
  · rw [List.map_cons, List.nodup_cons]
    refine ⟨fun z => ?_, O.nd⟩
    obtain ⟨q, hq, e⟩ := List.mem_map.mp z
    exact O.out h q hq e
end R
namespace R
open PySem L2
theorem Own.butNew {B H H' : Hp} {Lw : List (Addr × HO)} {a p : Addr} {o u v : HO} (O : Own B Lw H) (i : Nat) (h : Lw[i]? = some (a, o)) (k : ∀ b v, b ≠ a → H b = some v → H' b = some v) (ha : H' a = some u) (hp : H p = none) (hv : H' p = some v) : Own B ((p, v) :: Lw.set i (a, u)) H' := by
  have O1 := O.but i h k ha
  refine ⟨O1.st, fun q hq => ?_, fun q hq => ?_, ?_⟩
  · rcases List.mem_cons.mp hq with rfl | hq
    · exact hv
    · exact O1.ow q hq
  · rcases List.mem_cons.mp hq with rfl | hq
    · exact O.free hp
    · exact O1.no q hq
  · rw [List.map_cons, List.nodup_cons]
    refine ⟨fun z => ?_, O1.nd⟩
    rw [set_map1 h] at z
    obtain ⟨q, hq, e⟩ := List.mem_map.mp z
    exact O.out hp q hq e
/-- what is new to the owner was new ahead of its changes -/
theorem Own.was {H H0 : Hp} {Lw : List (Addr × HO)} {a p : Addr} {o : HO} (O : Own (del1 H0 a) Lw H) (ha : H0 a = some o) (hl : ∃ (i : Nat) (u : HO), Lw[i]? = some (a, u)) (hp : H p = none) : H0 p = none := by
  cases e : H0 p with
  | none => rfl
  | some w =>
    by_cases z : p = a
    · obtain ⟨i, u, h⟩ := hl
      have q := O.get i h
      rw [← z, hp] at q
      cases q
    · have q := O.st p w (by unfold del1; rw [if_neg z]; exact e)
      rw [hp] at q
      cases q
end R
namespace R
open PySem L2
theorem Own.less {B H : Hp} {Lw Lw' : List (Addr × HO)} (O : Own B Lw H) (s : Lw'.Sublist Lw) : Own B Lw' H :=
  ⟨O.st, fun q hq => O.ow q (s.subset hq), fun q hq => O.no q (s.subset hq), O.nd.sublist (s.map _)⟩
theorem Own.drop {B H : Hp} {Lw : List (Addr × HO)} (O : Own B Lw H) (n : Nat) : Own B (Lw.drop n) H := O.less (List.drop_sublist n Lw)
end R

namespace R
open PySem PySem.Spec PyProof.Rows L2
open PySem.W (Frag)
/-! ### rules of our own -/
theorem op_mulX {X : Cx} : OpR X (binaryOp .Mult) (rI IntMulOk fun i j => .int (i * j)) := opI fun _ _ _ _ _ _ _ hc q => mul_int q hc
theorem mx_l {i j : Int} (h1 : -(2 ^ 64) < i) (h2 : i < 2 ^ 64) : IntMulOk i j := CMul.ok (.inl ⟨h1, h2⟩)
theorem mx_r {i j : Int} (h1 : -(2 ^ 64) < j) (h2 : j < 2 ^ 64) : IntMulOk i j := CMul.ok (.inr ⟨h1, h2⟩)
theorem pe_globI {X : Cx} {x : Str} {i : Int} {pos : Pos} (hg : Gl X x) (hm : ∃ t, X.mg x = some (.int i t)) (hd : (x == ("__debug__" : Str)) = false := by decide) : PE X (.Name x pos) (tC (.int i)) := by
  obtain ⟨t, h⟩ := hm
  exact pe_glob hg h ⟨t, rfl⟩ hd
/-- len, tuple(..), list(..) of a list or tuple -/
def rLen (K : Frag) : List V → Hp → VK → Prop := fun xs H Q => ∃ p ys, xs = [.ref p] ∧ (SqL K H p ys ∨ SqT K H p ys) ∧ Q (.int ys.length) H
theorem call_lenR {X : Cx} : CallR X (.builtin "len") (rLen X.K) := call_len_seq
def rAbs : List V → Hp → VK → Prop := fun xs H Q => ∃ i, xs = [.int i] ∧ Q (.int (if i < 0 then -i else i)) H
theorem call_absR {X : Cx} : CallR X (.builtin "abs") rAbs := call_abs
def rTupOf (K : Frag) : List V → Hp → VK → Prop := fun xs H Q => ∃ p ys, xs = [.ref p] ∧ ((SqL K H p ys ∧ ∀ l, H l = none → Q (.ref l) (upd H l (.tup ys))) ∨ (SqT K H p ys ∧ Q (.ref p) H))
theorem call_tupR {X : Cx} : CallR X (.type "tuple") (rTupOf X.K) := call_tuple_of
def rLstOf (K : Frag) : List V → Hp → VK → Prop := fun xs H Q => ∃ p ys, xs = [.ref p] ∧ (SqL K H p ys ∨ SqT K H p ys) ∧ ∀ l, H l = none → Q (.ref l) (upd H l (.lst ys))
theorem call_lstR {X : Cx} : CallR X (.type "list") (rLstOf X.K) := call_list_of
/-! ### the steps -/
/-- a new list, a new tuple -/
def NewL (xs : List V) (H : Hp) (Q : VK) : Prop := xs.length ≤ sizeLine ∧ ∀ p, H p = none → Q (.ref p) (upd H p (.lst xs))
def NewT (xs : List V) (H : Hp) (Q : VK) : Prop := xs.length ≤ sizeLine ∧ ∀ p, H p = none → Q (.ref p) (upd H p (.tup xs))
section
variable {t u : TS} {D : Ends} {σ : L2.St} {H : Hp} {te ta tb tc : TE} {g : TG} {c d : TT} {Q : VK} {v x y : V} {i : Nat} {r r' : R2} {QB : Bool → Hp → Prop} {QL : List V → Hp → Prop} {K : Frag} {tr : TA} {tl th : TO}
theorem a_seq (h : t { D with nx := u D } σ H) : tSeq t u D σ H := h
theorem a_next (h : D.nx σ H) : tNext D σ H := h
theorem a_asg (h : te σ H fun x H1 => g x σ H1 D.nx) : tAsg te g D σ H := h
theorem a_gname {Qs : L2.St → Hp → Prop} (h : Qs (σ.set i (some v)) H) : gName i v σ H Qs := h
theorem a_drop (h : te σ H fun _ H1 => D.nx σ H1) : tDrop te D σ H := h
theorem a_ret (h : te σ H D.rt) : tRet te D σ H := h
theorem a_retN (h : D.rt .non H) : tRetN D σ H := h
theorem a_if (h : c σ H fun b H1 => if b = true then t D σ H1 else u D σ H1) : tIfS c t u D σ H := h
theorem a_var (e : σ[i]? = some (some v)) (h : Q v H) : tVar i σ H Q := ⟨v, e, h⟩
theorem a_c (h : Q v H) : tC v σ H Q := h
theorem a_op (h : ta σ H fun x H1 => tb σ H1 fun y H2 => r x y H2 Q) : tOp r ta tb σ H Q := h
theorem a_un {f : V → Hp → VK → Prop} (h : ta σ H fun x H1 => f x H1 Q) : tUn f ta σ H Q := h
theorem a_neg {n : Int} (h : Q (.int (-n)) H) : rU (fun i => .int (-i)) (.int n) H Q := ⟨n, rfl, h⟩
theorem a_test (h : te σ H fun x H' => ∃ k, x = .bl k ∧ QB k H') : tTest te σ H QB := h
theorem a_tB (h : te σ H fun x H' => ∃ k, x = .bl k ∧ QB k H') : tB te σ H QB := h
theorem a_bk {b : Bool} (h : QB b H) : ∃ k, V.bl b = .bl k ∧ QB k H := ⟨b, rfl, h⟩
theorem a_and (h : c σ H fun b H1 => if b = true then d σ H1 QB else QB false H1) : tAnd c d σ H QB := h
theorem a_or (h : c σ H fun b H1 => if b = true then QB true H1 else d σ H1 QB) : tOr c d σ H QB := h
theorem a_not (h : c σ H fun b H1 => QB (!b) H1) : tNot c σ H QB := h
theorem a_andV (h : ta σ H fun x H1 => ∃ b, x = .bl b ∧ if b = true then tb σ H1 Q else Q (.bl false) H1) : tAndV ta tb σ H Q := h
theorem a_orV (h : ta σ H fun x H1 => ∃ b, x = .bl b ∧ if b = true then Q (.bl true) H1 else tb σ H1 Q) : tOrV ta tb σ H Q := h
theorem a_notV (h : ta σ H fun x H1 => ∃ b, x = .bl b ∧ Q (.bl (!b)) H1) : tNotV ta σ H Q := h
theorem a_bv {b : Bool} {A : Bool → Prop} (h : A b) : ∃ k, V.bl b = .bl k ∧ A k := ⟨b, rfl, h⟩
theorem a_ifE (h : c σ H fun b H1 => if b = true then ta σ H1 Q else tb σ H1 Q) : tIf c ta tb σ H Q := h
theorem a_nil (h : QL [] H) : tNil σ H QL := h
theorem a_cons (h : te σ H fun x H1 => tr σ H1 fun xs H2 => QL (x :: xs) H2) : tCons te tr σ H QL := h
theorem a_tup (h : tr σ H fun xs H1 => NewT xs H1 Q) : tTup tr σ H Q := h
theorem a_lst (h : tr σ H fun xs H1 => NewL xs H1 Q) : tLst tr σ H Q := h
theorem a_cb {f : List V → Hp → VK → Prop} (h : tr σ H fun vs H1 => f vs H1 Q) : tCB f tr σ H Q := h
theorem a_call {sp : Sp} {dvs : List V} {E : XK} (h : tr σ H fun vs H1 => sp (vs ++ dvs) H1 Q E) : tCall sp dvs E tr σ H Q := h
theorem a_chain (h : ta σ H fun x H1 => tb σ H1 fun y H2 => r x y H2 fun z H3 => ∃ k, z = .bl k ∧ (if k = true then tc σ H3 fun w' H4 => r' y w' H4 Q else Q (.bl false) H3)) : tChain r r' ta tb tc σ H Q := h
theorem a_sl {f : V → Option Int → Option Int → Hp → VK → Prop} (h : te σ H fun x H1 => tl σ H1 fun l H2 => th σ H2 fun u H3 => f x l u H3 Q) : tSl f te tl th σ H Q := h
theorem a_npart {Qo : Option Int → Hp → Prop} (h : Qo none H) : tNoPart σ H Qo := h
theorem a_part {Qo : Option Int → Hp → Prop} (h : te σ H fun x H1 => ∃ i, x = .int i ∧ Qo (some i) H1) : tPart te σ H Qo := h
theorem a_ik {n : Int} {A : Int → Prop} (h : A n) : ∃ i, V.int n = .int i ∧ A i := ⟨n, rfl, h⟩
theorem a_gsub {to ti : TE} {ts : TSet} {Qs : L2.St → Hp → Prop} (h : to σ H fun o H1 => ti σ H1 fun i H2 => ts o i v H2 fun H3 => Qs σ H3) : gSub to ti ts v σ H Qs := h
theorem a_bm {T : String} {f : V → List V → Hp → VK → Prop} {to : TE} (h : to σ H fun x H1 => tyV K T x H1 ∧ tr σ H1 fun xs H2 => f x xs H2 Q) : tBM K T f to tr σ H Q := h
theorem a_bm0 {T : String} {f : V → List V → Hp → VK → Prop} {to : TE} (h : to σ H fun x H1 => tyV K T x H1 ∧ f x [] H1 Q) : tBM0 K T f to σ H Q := h
theorem a_par {a b : Nat} (h : tr σ H fun vs H1 => ∃ v w, vs = [v, w] ∧ D.nx ((σ.set a (some v)).set b (some w)) H1) : tPar a b tr D σ H := h
theorem a_par2 {A : V → V → Prop} (h : A x y) : ∃ v w, [x, y] = [v, w] ∧ A v w := ⟨x, y, rfl, h⟩
theorem a_for {wi : TI} (h : wi σ H fun J H1 => ∃ W : Nat → Nat → L2.St → Hp → Prop, (∃ m, W 0 m σ H1) ∧ ∀ i m σ H, W i m σ H →
  (J.stop i H ∧ D.nx σ H) ∨ (J.go i H ∧ ∃ N : L2.St → Hp → Prop, (∀ σ' H', N σ' H' → ∃ m', m' < m ∧ W (i + 1) m' σ' H') ∧ ∀ x H', J.yld i H x H' → g x σ H' fun σ2 H2 => t { D with nx := N, ct := N, bk := D.nx } σ2 H2)) : tFor wi g t D σ H := h
theorem a_rng1 {RR : It → Hp → Prop} (h : tr σ H fun vs H1 => ∃ j : Int, vs = [.int j] ∧ -(2 ^ 62) ≤ j ∧ j < 2 ^ 62 ∧ RR (Itr 0 j.toNat) H1) : iRng1 tr σ H RR := h
theorem a_rng1' {j : Int} {A : Int → Prop} (h1 : -(2 ^ 62) ≤ j) (h2 : j < 2 ^ 62) (h : A j) : ∃ k : Int, [V.int j] = [.int k] ∧ -(2 ^ 62) ≤ k ∧ k < 2 ^ 62 ∧ A k := ⟨j, rfl, h1, h2, h⟩
theorem a_rng2 {RR : It → Hp → Prop} (h : tr σ H fun vs H1 => ∃ i j : Int, vs = [.int i, .int j] ∧ (-(2 ^ 62) ≤ i ∧ i < 2 ^ 62 ∧ -(2 ^ 62) ≤ j ∧ j < 2 ^ 62) ∧ RR (Itr i (j - i).toNat) H1) : iRng2 tr σ H RR := h
theorem a_rng2' {i j : Int} {A : Int → Int → Prop} (h1 : -(2 ^ 62) ≤ i ∧ i < 2 ^ 62 ∧ -(2 ^ 62) ≤ j ∧ j < 2 ^ 62) (h : A i j) : ∃ a b : Int, [V.int i, V.int j] = [.int a, .int b] ∧ (-(2 ^ 62) ≤ a ∧ a < 2 ^ 62 ∧ -(2 ^ 62) ≤ b ∧ b < 2 ^ 62) ∧ A a b := ⟨i, j, rfl, h1, h⟩
theorem a_lc {wi : TI} {tt : TT} {vs : List Nat} (h : wi σ H fun J H1 => ∀ D, H1 D = none → ∃ W : Nat → Nat → Hp → Prop, (∃ m, W 0 m (upd H1 D (.lst []))) ∧ ∀ i m H, W i m H →
  (J.stop i H ∧ Q (.ref D) H) ∨ (J.go i H ∧ ∃ Nx : Hp → Prop, (∀ H', Nx H' → ∃ m', m' < m ∧ W (i + 1) m' H') ∧ ∀ x H', J.yld i H x H' → g x (wipe σ vs) H' fun σ2 H2 => wipe σ2 vs = wipe σ vs ∧ tt σ2 H2 fun b H3 =>
    if b = true then te σ2 H3 fun y H4 => ∃ acc, H4 D = some (.lst acc) ∧ acc.length < sizeLine ∧ Nx (upd H4 D (.lst (acc ++ [y]))) else Nx H3)) : tLc wi g tt te vs σ H Q := h
theorem a_gtup {n : Nat} {gs : TGs} {p : Addr} {xs : List V} {Qs : L2.St → Hp → Prop} (hs : SqT K H p xs) (hl : xs.length = n) (h : gs xs σ H Qs) : gTup K n gs (.ref p) σ H Qs := ⟨p, xs, rfl, hs, hl, h⟩
theorem a_gcons {gs : TGs} {vs : List V} {Qs : L2.St → Hp → Prop} (h : g v σ H fun σ' H' => gs vs σ' H' Qs) : gCons g gs (v :: vs) σ H Qs := ⟨v, vs, rfl, h⟩
theorem a_gnil {Qs : L2.St → Hp → Prop} (h : Qs σ H) : gNil [] σ H Qs := ⟨rfl, h⟩
theorem a_yes (h : QB true H) : tYes σ H QB := h
-- by values
theorem a_I0 {f : Int → Int → V} {m n : Int} (h : Q (f m n) H) : rI0 f (.int m) (.int n) H Q := ⟨m, n, rfl, rfl, h⟩
theorem a_I {C : Int → Int → Prop} {f : Int → Int → V} {m n : Int} (hc : C m n) (h : Q (f m n) H) : rI C f (.int m) (.int n) H Q := ⟨m, n, rfl, rfl, hc, h⟩
theorem a_eqI {m n : Int} (h : Q (.bl (decide (m = n))) H) : rEq (.int m) (.int n) H Q := ⟨rfl, by
  have e : decide (V.int m = V.int n) = decide (m = n) := by rw [dec_int, Bool.beq_eq_decide_eq]
  rw [e]; exact h⟩
theorem a_neI {m n : Int} (h : Q (.bl (!decide (m = n))) H) : rNe (.int m) (.int n) H Q := ⟨rfl, by
  have e : decide (V.int m = V.int n) = decide (m = n) := by rw [dec_int, Bool.beq_eq_decide_eq]
  rw [e]; exact h⟩
theorem a_isN1 (h : Q (.bl true) H) : rIsN .non .non H Q := ⟨rfl, h⟩
theorem a_isN0 (hx : x ≠ .non) (h : Q (.bl false) H) : rIsN x .non H Q := ⟨rfl, by rw [decide_eq_false hx]; exact h⟩
theorem a_notN1 (h : Q (.bl false) H) : rNotN .non .non H Q := ⟨rfl, h⟩
theorem a_notN0 (hx : x ≠ .non) (h : Q (.bl true) H) : rNotN x .non H Q := ⟨rfl, by rw [decide_eq_false hx]; exact h⟩
theorem a_ixL {p : Addr} {xs : List V} {n : Int} (hs : SqL K H p xs) (ha : atI xs n = some v) (h : Q v H) : rIxL K (.ref p) (.int n) H Q := ⟨p, xs, n, v, rfl, rfl, hs, ha, h⟩
theorem a_ixT {p : Addr} {xs : List V} {n : Int} (hs : SqT K H p xs) (ha : atI xs n = some v) (h : Q v H) : rIxT K (.ref p) (.int n) H Q := ⟨p, xs, n, v, rfl, rfl, hs, ha, h⟩
theorem a_setL {B : Hp} {Lw : List (Addr × HO)} {p : Addr} {xs : List V} {n : Int} {j : Nat} {Qh : Hp → Prop} (O : Own B Lw H) (i : Nat) (h : Lw[i]? = some (p, .lst xs)) (hj : ixN xs.length n = some j)
    (q : ∀ H', Own B (Lw.set i (p, .lst (xs.set j v))) H' → Qh H') : rSetL (.ref p) (.int n) v H Qh := ⟨p, xs, n, j, rfl, rfl, O.get i h, hj, q _ (O.put i h)⟩
theorem a_app {B : Hp} {Lw : List (Addr × HO)} {p : Addr} {xs : List V} (O : Own B Lw H) (i : Nat) (h : Lw[i]? = some (p, .lst xs)) (hl : xs.length ≤ 1000000)
    (q : ∀ H', Own B (Lw.set i (p, .lst (xs ++ [y]))) H' → Q .non H') : rAppend (.ref p) [y] H Q := ⟨p, xs, y, rfl, rfl, O.get i h, Nat.lt_of_le_of_lt hl (by decide), q _ (O.put i h)⟩
theorem a_mkL {B : Hp} {Lw : List (Addr × HO)} {xs : List V} (O : Own B Lw H) (hl : xs.length ≤ 1000000) (q : ∀ p H', H p = none → Own B ((p, .lst xs) :: Lw) H' → Q (.ref p) H') : NewL xs H Q :=
  ⟨Nat.le_trans hl (by decide), fun p hp => q p _ hp (O.new hp)⟩
theorem a_mkT {B : Hp} {Lw : List (Addr × HO)} {xs : List V} (O : Own B Lw H) (hl : xs.length ≤ 1000000) (q : ∀ p H', H p = none → Own B ((p, .tup xs) :: Lw) H' → Q (.ref p) H') : NewT xs H Q :=
  ⟨Nat.le_trans hl (by decide), fun p hp => q p _ hp (O.new hp)⟩
theorem a_int1 {n : Int} {A : Int → Prop} {C : Prop} (h : A n) : (∃ i, [V.int n] = [V.int i] ∧ A i) ∨ C := .inl ⟨n, rfl, h⟩
theorem a_len {q : Addr} {ys : List V} (hs : SqL K H q ys ∨ SqT K H q ys) (h : Q (.int ys.length) H) : rLen K [V.ref q] H Q := ⟨q, ys, rfl, hs, h⟩
theorem a_sum {a : Addr} {ns : List Int} (hs : SqL K H a (ns.map V.int)) (h : Q (.int ns.sum) H) : rSum K [V.ref a] H Q := ⟨a, ns, rfl, hs, h⟩
theorem a_tupL {B : Hp} {Lw : List (Addr × HO)} {a : Addr} {xs : List V} (O : Own B Lw H) (hs : SqL K H a xs) (h : ∀ p H', H p = none → Own B ((p, .tup xs) :: Lw) H' → Q (.ref p) H') : rTupOf K [V.ref a] H Q := ⟨a, xs, rfl, .inl ⟨hs, fun l hl => h l _ hl (O.new hl)⟩⟩
theorem a_tupT {a : Addr} {xs : List V} (hs : SqT K H a xs) (h : Q (.ref a) H) : rTupOf K [V.ref a] H Q := ⟨a, xs, rfl, .inr ⟨hs, h⟩⟩
theorem a_lstO {B : Hp} {Lw : List (Addr × HO)} {a : Addr} {xs : List V} (O : Own B Lw H) (hs : SqL K H a xs ∨ SqT K H a xs) (h : ∀ p H', H p = none → Own B ((p, .lst xs) :: Lw) H' → Q (.ref p) H') : rLstOf K [V.ref a] H Q := ⟨a, xs, rfl, hs, fun l hl => h l _ hl (O.new hl)⟩
theorem a_pow {m n : Int} {k : Nat} (hn : n = (k : Int)) (hk : k ≤ 1000000) (hm : m.natAbs < 2 ^ 64) (h : Q (.int (m ^ k)) H) : rI CPow (fun i j => .int (i ^ j.toNat)) (.int m) (.int n) H Q := by
  subst hn
  exact ⟨m, k, rfl, rfl, ⟨by omega, by omega, hm⟩, h⟩
theorem a_abs {n : Int} (h : Q (.int (n.natAbs : Int)) H) : rAbs [V.int n] H Q := ⟨n, rfl, by
  have e : (if n < 0 then -n else n) = (n.natAbs : Int) := by split <;> omega
  rw [e]; exact h⟩
-- tests
theorem a_tt {A B : Prop} (h : A) : if true = true then A else B := by rw [if_pos rfl]; exact h
theorem a_ff {A B : Prop} (h : B) : if false = true then A else B := by rw [if_neg Bool.false_ne_true]; exact h
theorem a_nt {A B : Prop} (h : B) : if (!true) = true then A else B := a_ff h
theorem a_nf {A B : Prop} (h : A) : if (!false) = true then A else B := a_tt h
theorem a_itT {p A B : Prop} [Decidable p] (hp : p) (h : A) : if decide p = true then A else B := by rw [if_pos (decide_eq_true hp)]; exact h
theorem a_itF {p A B : Prop} [Decidable p] (hp : ¬ p) (h : B) : if decide p = true then A else B := by rw [if_neg (by rw [decide_eq_false hp]; decide)]; exact h
theorem a_it2 {p A B : Prop} [Decidable p] (h1 : p → A) (h2 : ¬ p → B) : if decide p = true then A else B := by
  by_cases hp : p
  · exact a_itT hp (h1 hp)
  · exact a_itF hp (h2 hp)
theorem a_niT {p A B : Prop} [Decidable p] (hp : p) (h : B) : if (!decide p) = true then A else B := by rw [decide_eq_true hp]; exact a_nt h
theorem a_niF {p A B : Prop} [Decidable p] (hp : ¬ p) (h : A) : if (!decide p) = true then A else B := by rw [decide_eq_false hp]; exact a_nf h
theorem a_ni2 {p A B : Prop} [Decidable p] (h1 : p → B) (h2 : ¬ p → A) : if (!decide p) = true then A else B := by
  by_cases hp : p
  · exact a_niT hp (h1 hp)
  · exact a_niF hp (h2 hp)
theorem a_itB {b : Bool} {A B : Prop} (h1 : b = true → A) (h2 : b = false → B) : if b = true then A else B := by
  cases b with
  | true => exact a_tt (h1 rfl)
  | false => exact a_ff (h2 rfl)
theorem a_niB {b : Bool} {A B : Prop} (h1 : b = true → B) (h2 : b = false → A) : if (!b) = true then A else B := by
  cases b with
  | true => exact a_nt (h1 rfl)
  | false => exact a_nf (h2 rfl)
theorem a_cT {p q A B : Prop} [Decidable p] [Decidable q] (hp : p) (hq : q) (h : A) : if (decide p && decide q) = true then A else B := by rw [decide_eq_true hp, decide_eq_true hq]; exact a_tt h
theorem a_cF {p q A B : Prop} [Decidable p] [Decidable q] (hp : ¬ (p ∧ q)) (h : B) : if (decide p && decide q) = true then A else B := by
  by_cases h1 : p
  · rw [decide_eq_true h1, decide_eq_false (fun z => hp ⟨h1, z⟩)]; exact a_ff h
  · rw [decide_eq_false h1]; exact a_ff h
theorem a_ncT {p q A B : Prop} [Decidable p] [Decidable q] (hp : p) (hq : q) (h : B) : if (!(decide p && decide q)) = true then A else B := by rw [decide_eq_true hp, decide_eq_true hq]; exact a_nt h
theorem a_isiI {i : Int} (h : Q (.bl true) H) : rIsi K [.int i, .ty "int"] H Q := ⟨_, _, .type "int", .type "int", true, rfl, .ty _, .base (.int i), kit_ty (by decide +kernel), h⟩
theorem a_isiB {i : Int} (h : Q (.bl false) H) : rIsi K [.int i, .ty "bool"] H Q := ⟨_, _, .type "int", .type "bool", false, rfl, .ty _, .base (.int i), kit_ty (by decide +kernel), h⟩
end
theorem divW {m n : Int} (h : 0 < n) (h' : n < 10 ^ 60) : CDivW m n := wide_div (b := 200) h (by
  have q : (10 : Int) ^ 60 < 2 ^ 200 := by decide
  have r : n < 2 ^ 200 := Int.lt_trans h' q
  omega) (by decide) (by decide)
theorem at0 {α : Type} {xs : List α} {n : Int} {j : Nat} {v : α} (e : n = (j : Int)) (h : xs[j]? = some v) : atI xs n = some v := by
  rw [e]; exact atI_nat h
end R
namespace R
open PySem PySem.Spec PyProof.Rows L2
theorem mx_w {i j : Int} (a b : Nat) (ha : i.natAbs < 2 ^ a) (hb : j.natAbs < 2 ^ b) (h0 : 0 < a := by decide) (h1 : 0 < b := by decide) (h : a + b ≤ 1000000 := by decide) : IntMulOk i j := (wide_mul ha hb h0 h1 h).ok
end R
namespace R
open PySem PySem.Spec PyProof.Rows L2
open PySem.W (Frag)
section
variable {K : Frag} {B H : Hp} {Lw : List (Addr × HO)} {p : Addr} {z : Int} {Q : VK}
/-- an item of a written list at a drawn place -/
theorem a_ixV {xs : List V} (O : Own B Lw H) (i : Nat) (h : Lw[i]? = some (p, .lst xs)) (h0 : 0 ≤ z) (h1 : z < xs.length) (q : ∀ v, v ∈ xs → Q v H) : rIxL K (.ref p) (.int z) H Q := by
  have e : z.toNat < xs.length := by omega
  exact a_ixL (O.sq i h) (at0 (j := z.toNat) (by omega) (List.getElem?_eq_getElem e)) (q _ (List.getElem_mem e))
theorem a_ixM {ms : List Int} (O : Own B Lw H) (i : Nat) (h : Lw[i]? = some (p, .lst (ms.map V.int))) (h0 : 0 ≤ z) (h1 : z < ms.length) (q : ∀ m, m ∈ ms → Q (.int m) H) : rIxL K (.ref p) (.int z) H Q :=
  a_ixV O i h h0 (by rw [List.length_map]; exact h1) fun v hv => by
    obtain ⟨m, hm, rfl⟩ := List.mem_map.mp hv
    exact q m hm
end
end R
namespace R
open PySem PySem.Spec PyProof.Rows L2
open PySem.W (Frag)
section
variable {K : Frag} {B H : Hp} {Lw : List (Addr × HO)} {p : Addr} {z : Int} {Q : VK}
/-- an item of a list of ints -/
theorem a_ixI {ms : List Int} (O : Own B Lw H) (i : Nat) (h : Lw[i]? = some (p, .lst (ms.map V.int))) (h0 : 0 ≤ z) (h1 : z.toNat < ms.length) (q : Q (.int (ms[z.toNat])) H) : rIxL K (.ref p) (.int z) H Q :=
  a_ixL (O.sq i h) (at0 (j := z.toNat) (by omega) (by rw [List.getElem?_map, List.getElem?_eq_getElem h1]; rfl)) q
end
end R
namespace R
open PySem PySem.Spec PyProof.Rows L2
/-- an if whose test comes out one way on all ways -/
theorem a_ifNo {c : TT} {t u : TS} {D : Ends} {σ : L2.St} {H : Hp} (hc : ∀ QB : Bool → Hp → Prop, QB false H → c σ H QB) (h : u D σ H) : tIfS c t u D σ H := hc _ (a_ff h)
theorem a_ifYes {c : TT} {t u : TS} {D : Ends} {σ : L2.St} {H : Hp} (hc : ∀ QB : Bool → Hp → Prop, QB true H → c σ H QB) (h : t D σ H) : tIfS c t u D σ H := hc _ (a_tt h)
theorem a_ifNoH {c : TT} {t u : TS} {D : Ends} {σ : L2.St} {H : Hp} (P : Hp → Prop) (hc : ∀ QB : Bool → Hp → Prop, (∀ H', P H' → QB false H') → c σ H QB) (h : ∀ H', P H' → u D σ H') : tIfS c t u D σ H := hc _ fun H' p => a_ff (h H' p)
end R
namespace R
open PySem PySem.Spec PyProof.Rows L2
theorem q_F {p : Prop} [Decidable p] {QB : Bool → Hp → Prop} {H : Hp} (hq : QB false H) (hp : ¬ p) : QB (decide p) H := by rw [decide_eq_false hp]; exact hq
theorem q_T {p : Prop} [Decidable p] {QB : Bool → Hp → Prop} {H : Hp} (hq : QB true H) (hp : p) : QB (decide p) H := by rw [decide_eq_true hp]; exact hq
theorem q_nT {p : Prop} [Decidable p] {QB : Bool → Hp → Prop} {H : Hp} (hq : QB false H) (hp : p) : QB (!decide p) H := by rw [decide_eq_true hp]; exact hq
theorem q_nF {p : Prop} [Decidable p] {QB : Bool → Hp → Prop} {H : Hp} (hq : QB true H) (hp : ¬ p) : QB (!decide p) H := by rw [decide_eq_false hp]; exact hq
end R
namespace R
open PySem PySem.Spec PyProof.Rows L2
/-- while: W by a measure -/
theorem a_while {c : TT} {tb : TS} {D : Ends} {σ : L2.St} {H : Hp} (W : Nat → L2.St → Hp → Prop) (h0 : ∃ m, W m σ H)
    (hs : ∀ m σ H, W m σ H → c σ H fun b H1 => if b = true then (∃ N : L2.St → Hp → Prop, (∀ σ' H', N σ' H' → ∃ m', m' < m ∧ W m' σ' H') ∧ tb { D with nx := N, ct := N, bk := D.nx } σ H1) else D.nx σ H1) : tWhile c tb D σ H := ⟨W, h0, hs⟩
theorem a_turn {tb : TS} {D : Ends} {σ : L2.St} {H1 : Hp} {m : Nat} {W : Nat → L2.St → Hp → Prop} (h : tb { D with nx := fun σ' H' => ∃ m', m' < m ∧ W m' σ' H', ct := fun σ' H' => ∃ m', m' < m ∧ W m' σ' H', bk := D.nx } σ H1) :
    ∃ N : L2.St → Hp → Prop, (∀ σ' H', N σ' H' → ∃ m', m' < m ∧ W m' σ' H') ∧ tb { D with nx := N, ct := N, bk := D.nx } σ H1 := ⟨_, fun _ _ h => h, h⟩
end R
namespace R
open PySem PySem.Spec PyProof.Rows L2
open PySem.W (Frag)
section
variable {K : Frag} {tr : TA} {tl : TE} {σ : L2.St} {H : Hp} {RR : It → Hp → Prop}
theorem a_enum {tr : TA} (h : tr σ H fun vs H1 => ∃ a xs, vs = [.ref a] ∧ SqL K H1 a xs ∧ RR (Ite K a) H1) : iEnum K tr σ H RR := h
theorem a_iL (h : tl σ H fun x H1 => ∃ a, x = .ref a ∧ (∃ xs, SqL K H1 a xs) ∧ RR (Itl K a) H1) : iList K tl σ H RR := h
theorem a_iT (h : tl σ H fun x H1 => ∃ a, x = .ref a ∧ (∃ xs, SqT K H1 a xs) ∧ RR (Itt K a) H1) : iTup K tl σ H RR := h
end
end R
namespace R
open PySem PySem.Spec PyProof.Rows L2
open PySem.W (Frag)
section
variable {K : Frag} {te : TE} {σ : L2.St} {H B : Hp} {Q : VK} {Lw : List (Addr × HO)} {a : Addr} {xs : List V}
def rRev (K : Frag) : V → Hp → VK → Prop := fun x H Q => ∃ a xs, x = .ref a ∧ SqL K H a xs ∧ ∀ p, H p = none → Q (.ref p) (upd H p (.lst xs.reverse))
theorem a_rev (h : te σ H fun x H1 => rRev K x H1 Q) : tRevL K te σ H Q := h
theorem a_revL (O : Own B Lw H) (hs : SqL K H a xs) (q : ∀ p H', H p = none → Own B ((p, .lst xs.reverse) :: Lw) H' → Q (.ref p) H') : rRev K (.ref a) H Q := ⟨a, xs, rfl, hs, fun p hp => q p _ hp (O.new hp)⟩
end
end R
namespace R
open PySem PySem.Spec PyProof.Rows L2
open PySem.W (Frag)
/-! ### within a comprehension: the frag named -/
theorem pe_fldK {X : Cx} {K : Frag} {e : Expr} {f : Str} {pos : Pos} {ta : TE} (he : PE X e ta) (hb : attributeBase e f X.env (eval e X.env) = eval e X.env) (hK : X.K = K := by rfl) : PE X (.Attribute e f pos) (tFld K ta f) := by
  subst hK; exact pe_fld he hb
theorem pg_tupK {X : Cx} {K : Frag} {pos : Pos} {es : List Expr} {k : Nat} {t : TGs} {n : Nat} (hc : X.calm = true) (h : PGs X es t) (hK : X.K = K := by rfl) (hn : (assignEach es X.env).length = n := by rfl) (hst : (assignEach es X.env).findIdx? (·.1) = none := by rfl) : PG X (.Tuple es k pos) (gTup K n t) := by
  subst hK; exact pg_tup hc h hn hst
end R

namespace R
/-! ## the first one of a row -/
theorem find_more {α : Type} {g : Nat → Option α} {i : Nat} (h : (List.range i).findSome? g = none) (e : g i = none) : (List.range (i + 1)).findSome? g = none := by
  rw [List.range_succ, List.findSome?_append, h]
  simp [e]
theorem find_hit {α : Type} {g : Nat → Option α} {i : Nat} {x : α} (h : (List.range i).findSome? g = none) (e : g i = some x) : ∀ n : Nat, i < n → (List.range n).findSome? g = some x := by
  intro n
  induction n with
  | zero => intro z; omega
  | succ n ih =>
    intro z
    rw [List.range_succ, List.findSome?_append]
    by_cases q : i = n
    · rw [← q, h]; simp [e]
    · rw [ih (by omega)]; rfl
theorem pow_bits {b : Int} {n m : Nat} (h0 : 0 ≤ b) (h1 : b ≤ 16) (hn : n ≤ m) : (b ^ n).natAbs < 2 ^ (4 * m + 1) := by
  rw [Int.natAbs_pow]
  have e1 : b.natAbs ≤ 16 := by omega
  have e2 : b.natAbs ^ n ≤ 16 ^ n := Nat.pow_le_pow_left e1 n
  have e3 : (16 : Nat) ^ n = 2 ^ (4 * n) := by rw [Nat.pow_mul]
  have e4 : (2 : Nat) ^ (4 * n) ≤ 2 ^ (4 * m) := Nat.pow_le_pow_right (by decide) (by omega)
  have e5 : (2 : Nat) ^ (4 * m + 1) = 2 ^ (4 * m) * 2 := Nat.pow_succ ..
  have e6 : 0 < (2 : Nat) ^ (4 * m) := Nat.pow_pos (by decide)
  omega
end R
namespace R
theorem find_ext {α : Type} {g : Nat → Option α} {n : Nat} : ∀ m : Nat, n ≤ m → (∀ i, n ≤ i → i < m → g i = none) → (List.range m).findSome? g = (List.range n).findSome? g := by
  intro m
  induction m with
  | zero => intro h _; rw [Nat.le_zero.mp h]
  | succ m ih =>
    intro h k
    by_cases e : n = m + 1
    · rw [e]
    · rw [List.range_succ, List.findSome?_append, ih (by omega) fun i h1 h2 => k i h1 (by omega)]
      simp [k m (by omega) (by omega)]
theorem find_same {α : Type} {g g' : Nat → Option α} : ∀ n : Nat, (∀ i, i < n → g i = g' i) → (List.range n).findSome? g = (List.range n).findSome? g' := by
  intro n
  induction n with
  | zero => intro _; rfl
  | succ n ih =>
    intro k
    rw [List.range_succ, List.findSome?_append, List.findSome?_append, ih fun i h => k i (by omega)]
    simp [k n (by omega)]
/-- the first hit: all of the rows ahead of i, and j of row i -/
def fst2 (h : Nat → Nat → Option Int) (B i j : Nat) : Option (Nat × Int) :=
  ((List.range i).findSome? fun p => ((List.range B).findSome? (h p)).map fun x => (p, x)).or (((List.range j).findSome? (h i)).map fun x => (i, x))
theorem fst2_yes {h : Nat → Nat → Option Int} {B i j : Nat} {x : Int} (e : h i j = some x) : fst2 h B i (j + 1) = (fst2 h B i j).or (some (i, x)) := by
  unfold fst2
  rw [List.range_succ, List.findSome?_append]
  cases (List.range i).findSome? fun p => ((List.range B).findSome? (h p)).map fun x => (p, x) <;> cases (List.range j).findSome? (h i) <;> simp [e]
theorem fst2_no {h : Nat → Nat → Option Int} {B i j : Nat} (e : h i j = none) : fst2 h B i (j + 1) = fst2 h B i j := by
  unfold fst2
  rw [List.range_succ, List.findSome?_append]
  cases (List.range j).findSome? (h i) <;> simp [e]
theorem fst2_row {h : Nat → Nat → Option Int} {B i : Nat} : fst2 h B (i + 1) 0 = fst2 h B i B := by
  unfold fst2
  rw [List.range_succ, List.findSome?_append]
  simp
theorem fst2_all {h : Nat → Nat → Option Int} {B i : Nat} : fst2 h B i 0 = (List.range i).findSome? fun p => ((List.range B).findSome? (h p)).map fun x => (p, x) := by
  unfold fst2
  simp
theorem head_snoc {α : Type} (ps : List α) (x : α) : (ps ++ [x]).head? = ps.head?.or (some x) := by
  cases ps <;> rfl
end R

namespace R
open PySem PySem.Spec PyProof.Rows L2
open PySem.W (Frag)
/-! ## lists and tuples as data -/
theorem canAll_map {α : Type} {f : α → PyData} (h : ∀ a, (f a).canLay0 = true) : ∀ l : List α, PyData.canLayAll0 (l.map f) = true
  | [] => rfl
  | a :: l => by
    show ((f a).canLay0 && PyData.canLayAll0 (l.map f)) = true
    rw [h a, canAll_map h l]; rfl
theorem depthAll_map {α : Type} {f : α → PyData} {n : Nat} (h : ∀ a, (f a).depth ≤ n) : ∀ l : List α, PyData.depthAll (l.map f) ≤ n
  | [] => Nat.zero_le _
  | a :: l => by
    have h1 := h a
    have h2 := depthAll_map h l
    show max (f a).depth (PyData.depthAll (l.map f)) ≤ n
    omega
theorem dpAll_map {α : Type} {K : Frag} {H : Hp} {g : α → V} {f : α → PyData} (h : ∀ a, Dp K H (g a) (f a)) : ∀ l : List α, DpAll K H (l.map g) (l.map f)
  | [] => .nil
  | a :: l => .cons (h a) (dpAll_map h l)
theorem shaped_of {d : PyData} (h1 : d.canLay0 = true) (h2 : d.depth ≤ 64) : SeqAt.shaped d = true := by
  unfold SeqAt.shaped
  rw [h1, decide_eq_true h2]; rfl
/-- a list of ints -/
def pyL (ns : List Int) : PyData := .list (ns.map .int)
def pyT (ns : List Int) : PyData := .tuple (ns.map .int)
theorem can_pyL (ns : List Int) : (pyL ns).canLay0 = true := canAll_map (fun _ => rfl) ns
theorem can_pyT (ns : List Int) : (pyT ns).canLay0 = true := canAll_map (fun _ => rfl) ns
theorem dep_pyL (ns : List Int) : (pyL ns).depth ≤ 1 := by
  have h := depthAll_map (f := PyData.int) (n := 0) (fun _ => Nat.le_refl 0) ns
  show PyData.depthAll (ns.map .int) + 1 ≤ 1
  omega
theorem dep_pyT (ns : List Int) : (pyT ns).depth ≤ 1 := by
  have h := depthAll_map (f := PyData.int) (n := 0) (fun _ => Nat.le_refl 0) ns
  show PyData.depthAll (ns.map .int) + 1 ≤ 1
  omega
section
variable {K : Frag} {H : Hp} {x y : V} {Q : VK} {d : PyData} {a b : Addr} {ns : List Int}
theorem dp_pyL (h : SqL K H a (ns.map V.int)) : Dp K H (.ref a) (pyL ns) := .lst h (dpAll_map (fun i => .int i) ns)
theorem dp_pyT (h : SqT K H a (ns.map V.int)) : Dp K H (.ref a) (pyT ns) := .tup h (dpAll_map (fun i => .int i) ns)
theorem a_eqD (hx : Dp K H x d) (hy : Dp K H y d) (h1 : d.canLay0 = true) (h2 : d.depth ≤ 64) (h : Q (.bl true) H) : rEqD K x y H Q :=
  ⟨d, d, hx, hy, shaped_of h1 h2, shaped_of h1 h2, by rw [SeqAt.eqv_refl d h1]; exact h⟩
theorem a_neD (hx : Dp K H x d) (hy : Dp K H y d) (h1 : d.canLay0 = true) (h2 : d.depth ≤ 64) (h : Q (.bl false) H) : rNeD K x y H Q :=
  ⟨d, d, hx, hy, shaped_of h1 h2, shaped_of h1 h2, by rw [SeqAt.eqv_refl d h1]; exact h⟩
theorem a_eqL (hx : SqL K H a (ns.map V.int)) (hy : SqL K H b (ns.map V.int)) (h : Q (.bl true) H) : rEqD K (.ref a) (.ref b) H Q := a_eqD (dp_pyL hx) (dp_pyL hy) (can_pyL ns) (Nat.le_trans (dep_pyL ns) (by decide)) h
theorem a_neL (hx : SqL K H a (ns.map V.int)) (hy : SqL K H b (ns.map V.int)) (h : Q (.bl false) H) : rNeD K (.ref a) (.ref b) H Q := a_neD (dp_pyL hx) (dp_pyL hy) (can_pyL ns) (Nat.le_trans (dep_pyL ns) (by decide)) h
theorem a_eqT (hx : SqT K H a (ns.map V.int)) (hy : SqT K H b (ns.map V.int)) (h : Q (.bl true) H) : rEqD K (.ref a) (.ref b) H Q := a_eqD (dp_pyT hx) (dp_pyT hy) (can_pyT ns) (Nat.le_trans (dep_pyT ns) (by decide)) h
theorem a_neT (hx : SqT K H a (ns.map V.int)) (hy : SqT K H b (ns.map V.int)) (h : Q (.bl false) H) : rNeD K (.ref a) (.ref b) H Q := a_neD (dp_pyT hx) (dp_pyT hy) (can_pyT ns) (Nat.le_trans (dep_pyT ns) (by decide)) h
end
end R
namespace R
open PySem PySem.Spec PyProof.Rows L2
open PySem.W (Frag)
theorem dpAll_snoc {K : Frag} {H : Hp} {v : V} {d : PyData} (h : Dp K H v d) : ∀ {vs : List V} {ds : List PyData}, DpAll K H vs ds → DpAll K H (vs ++ [v]) (ds ++ [d])
  | _, _, .nil => .cons h .nil
  | _, _, .cons h1 h2 => .cons h1 (dpAll_snoc h h2)
theorem dpAll_len {K : Frag} {H : Hp} : ∀ {vs : List V} {ds : List PyData}, DpAll K H vs ds → vs.length = ds.length
  | _, _, .nil => rfl
  | _, _, .cons _ h2 => by rw [List.length_cons, List.length_cons, dpAll_len h2]
/-- a pair of ints -/
def pyP (p : Nat × Int) : PyData := .tuple [.int p.1, .int p.2]
theorem can_pyP (p : Nat × Int) : (pyP p).canLay0 = true := rfl
theorem dep_pyP (p : Nat × Int) : (pyP p).depth ≤ 1 := Nat.le_refl 1
theorem dp_pyP {K : Frag} {H : Hp} {a : Addr} {p : Nat × Int} (h : SqT K H a [.int p.1, .int p.2]) : Dp K H (.ref a) (pyP p) := .tup h (.cons (.int _) (.cons (.int _) .nil))
/-- != by data that is not the same -/
theorem a_neD' {K : Frag} {H : Hp} {x y : V} {Q : VK} {d e : PyData} (hx : Dp K H x d) (hy : Dp K H y e) (h1 : d.canLay0 = true) (h2 : d.depth ≤ 64) (h3 : e.canLay0 = true) (h4 : e.depth ≤ 64) (n : PyData.eqv d e = false) (h : Q (.bl true) H) : rNeD K x y H Q :=
  ⟨d, e, hx, hy, shaped_of h1 h2, shaped_of h3 h4, by rw [n]; exact h⟩
theorem a_eqD' {K : Frag} {H : Hp} {x y : V} {Q : VK} {d e : PyData} (hx : Dp K H x d) (hy : Dp K H y e) (h1 : d.canLay0 = true) (h2 : d.depth ≤ 64) (h3 : e.canLay0 = true) (h4 : e.depth ≤ 64) (n : PyData.eqv d e = false) (h : Q (.bl false) H) : rEqD K x y H Q :=
  ⟨d, e, hx, hy, shaped_of h1 h2, shaped_of h3 h4, by rw [n]; exact h⟩
end R

/-! ## enumerate(a tuple) -/
namespace PySem
namespace EnT
open PySem.W PySem.Calls PyProof.Rows
set_option maxHeartbeats 4000000
theorem meets_new1 {src : Value} {itO : Obj} {Hx : Heap → Prop} (B : Begins src itO Hx) :
    Meets (Builtin.«enumerate.__new__» ⟨[.type "enumerate", src], []⟩) (fun _ R s => Hx s.heap ∧
      R (.ok (.ret (.ref (s.heap.push itO).objs.size))) { s with heap := (s.heap.push itO).push { cls := .type "enumerate", data := .fields #[.none, .bool false, .ref s.heap.objs.size, rawInt 0, .none, .none] } }) := by
  refine .of_wp fun prog w A R s h => ?_
  obtain ⟨hp0, gn, dr, tks, osx⟩ := s
  obtain ⟨hH, hR⟩ := h
  have hsub := sub_enumerate
  have stp : ∀ {A' : Around} {E : Value → Shared → Prop} {Q : Value → Shared → Prop}, Q (.ref hp0.objs.size) ⟨hp0.push itO, gn, dr, tks, osx⟩ →
      wpAny (model prog w) A' (pyIter src) Q E ⟨hp0, gn, dr, tks, osx⟩ := fun q => B.iter prog w _ _ ⟨hp0, gn, dr, tks, osx⟩ _ hH q
  wp_walk using stp
  refine wpAny_stack_any fun st => wpAny_pure ?_
  split
  · rename_i c _ _ _ _ _
    cases (c == Value.type "enumerate") <;> (wp_walk using stp; exact ⟨_, rfl, hR⟩)
  · wp_walk using stp
    exact ⟨_, rfl, hR⟩
theorem call_new1 {prog : Program} {w : World} {A : Around} {E : Value → Shared → Prop} {s : Shared} {src : Value} {itO : Obj} {Hx : Heap → Prop} {Q : Value → Shared → Prop} (B : Begins src itO Hx) (hH : Hx s.heap)
    (h : ∀ h', IsEnum h' (s.heap.objs.size + 1) s.heap.objs.size 0 .none → h'.get? s.heap.objs.size = some itO → h'.objs.size = s.heap.objs.size + 2 →
      (∀ b o, s.heap.get? b = some o → h'.get? b = some o) → Q (.ref (s.heap.objs.size + 1)) { s with heap := h' }) :
    wpAny (model prog w) A (call (.type "enumerate") [src]) Q E s := by
  have z : (s.heap.push itO).objs.size = s.heap.objs.size + 1 := Heap.size_push ..
  refine callType_new F.called_enumerate (by decide) (F.typeCall_enumerate_1 _) (F.newCall_enumerate_1 _) (fun obj => F.args_object_init_2 obj _) F.entry_enumerate_new (meets_new1 B) ⟨hH, ?_⟩
  show _ ∧ _
  rw [z]
  have en : IsEnum ((s.heap.push itO).push { cls := .type "enumerate", data := .fields #[.none, .bool false, .ref s.heap.objs.size, rawInt 0, .none, .none] }) (s.heap.objs.size + 1) s.heap.objs.size 0 .none := by
    have q := Heap.get?_push_size (s.heap.push itO) (o := { cls := .type "enumerate", data := .fields #[.none, .bool false, .ref s.heap.objs.size, rawInt 0, .none, .none] }) rfl
    rw [z] at q
    exact q
  exact ⟨⟨_, en, rfl⟩, h _ en (Heap.get?_push_of_some _ (Heap.get?_push_size _ B.free)) (by rw [Heap.size_push, z]) fun b o x => Heap.get?_push_of_some _ (Heap.get?_push_of_some _ x)⟩
theorem end2 {prog : Program} {w : World} {A : Around} {E : Value → Shared → Prop} {s : Shared} {e it a : Addr} {i : Int} {j : Nat} {its : Array Value} {old : Value} {Q : Option Value → Shared → Prop} (hh : A.handled = none)
    (hen : IsEnum s.heap e it i old) (hti : s.heap.IsTupleIter it a j) (tp : s.heap.IsTuple a its) (hx : its[j]? = none)
    (k : ∀ h', Heap.ExtBut it s.heap h' → Q none { s with heap := h' }) : wpAny (model prog w) A (pyNext (.ref e)) Q E s := by
  have ty : s.TypeIs (.ref e) "enumerate" := ⟨_, hen, rfl⟩
  unfold pyNext
  refine wpAny_bind (wpAny_attempt (wpAny_callSpecial?_slot (name := Str.ofString "__next__") ty F.slot_enumerate_next ?_))
  refine wpAny_call_entry F.slot_enumerate_next ty F.entry_enumerate_next ?_ (F.args_enumerate_next_1 _)
  show wpAny _ _ (field (.ref e) 2 >>= _) _ _ _
  refine wpAny_bind (wpAny_field hen rfl (x := .ref it) rfl (wpAny_bind (wpAny_nextOf_tuple_end hh hti tp hx fun h' x eb hxo => ?_)))
  obtain ⟨ob, hob, hcl⟩ := hxo
  exact wpAny_bind (wpAny_isInstance (T := "StopIteration") (b := true) ⟨ob, hob, hcl⟩ isSubtype_stop (wpAny_pure (k _ eb)))
end EnT
end PySem
namespace R
open PySem PySem.Spec PyProof.Rows L2
open PySem.W (Frag)
/-- the tuple at a, each item in a new pair -/
def IteT (K : Frag) (a : Addr) : It :=
  ⟨fun i H => ∃ (xs : List V) (x : V), SqT K H a xs ∧ xs[i]? = some x,
   fun i H v H' => ∃ T x, v = .ref T ∧ H T = none ∧ H' = upd H T (.tup [.int (i : Nat), x]) ∧ ∀ xs, SqT K H a xs → xs[i]? = some x,
   fun i H => ∃ xs : List V, SqT K H a xs ∧ xs.length ≤ i⟩
theorem apart_ti {h : Heap} {a it : Addr} {i : Nat} {its : Array Value} (t : h.IsTuple a its) (j : h.IsTupleIter it a i) : a ≠ it := by
  intro z
  obtain ⟨o1, q1, c1, _⟩ := t
  obtain ⟨o2, q2, c2, _⟩ := j
  rw [z, q2] at q1
  cases q1
  rw [c1] at c2
  exact absurd c2 (by decide)
theorem apart_te {h : Heap} {a e it : Addr} {i : Int} {old : Value} {its : Array Value} (t : h.IsTuple a its) (j : IsEnum h e it i old) : e ≠ a := by
  intro z
  obtain ⟨o1, q1, c1, _⟩ := t
  have q2 : h.get? e = some _ := j
  rw [← z, q2] at q1
  cases q1
  exact absurd (show Value.type "enumerate" = Value.type "tuple" from c1) (by decide)
theorem turn_enumT {P : Program} {w : World} {K : Frag} {elts : List Expr} {kk : Nat} {tpos : Pos} (a e it : Addr) :
    Turn P w K (.Tuple elts kk tpos) (IteT K a) [e, it] e (fun i h => (∃ old, IsEnum h e it ((i : Nat) : Int) old) ∧ h.IsTupleIter it a i ∧ e ≠ it) where
  mem := List.mem_cons_self
  obj := fun i h st b hb => by
    obtain ⟨⟨old, hen⟩, ⟨ob, hob, hcl, hdt⟩, _⟩ := st
    rcases List.mem_cons.mp hb with rfl | hb
    · exact ⟨_, hen, fun v q => nomatch q⟩
    · have z : b = it := by simpa using hb
      subst z
      exact ⟨ob, hob, fun v q => by rw [hdt] at q; cases q⟩
  keep := fun i h h' st k => by
    obtain ⟨⟨old, hen⟩, hti, ne⟩ := st
    exact ⟨⟨old, k e (by simp) _ hen⟩, hti.at fun o q => k it (by simp) o q, ne⟩
  item := by
    intro X hP hw hK hc i pins s σ H E I hf st hg
    subst hP hw hK
    obtain ⟨⟨old, hen⟩, hti, ne⟩ := st
    obtain ⟨xs, x, sq, hx⟩ := hg
    obtain ⟨its, rv, tp, _⟩ := I.tuple sq
    obtain ⟨u0, hu0, ru0⟩ := rv.get hx
    have tp' : s.heap.IsTuple a its.toArray := tp
    have n1 := apart_ti tp' hti
    have n2 := apart_te tp' hen
    have le1 : e < s.heap.objs.size := Heap.lt_size hen
    have le2 : it < s.heap.objs.size := by
      obtain ⟨_, q, _⟩ := hti
      exact Heap.lt_size q
    have hi : i < its.toArray.size := by
      obtain ⟨q, _⟩ := List.getElem?_eq_some_iff.mp hu0
      simpa using q
    refine wpAny_pyNext_enum_itemD (Draws.tuple (A := X.A.in1) (show X.A.in1.handled = none from I.ok.hd hc) it a n1 its.toArray) hen ⟨hti, tp'⟩ hi ne (by simp [ne, n2]) fun v h' tk hv hout hst hT _ hk => ?_
    have ev : v = u0 := by
      have q : its.toArray[i]? = some u0 := by simpa using hu0
      rw [q] at hv
      exact (Option.some.inj hv).symm
    subst ev
    refine ⟨_, rfl, wpAny_letOwnedTupleGo_enum (s := { s with heap := h', toks := tk + 1 }) hout fun h'' hen' sb => ?_⟩
    have hT2 : h''.get? s.heap.objs.size = some { cls := .type "tuple", data := .seq #[.int i tk, v] } := (sb.2 _ (Nat.ne_of_gt le1)).trans hT
    have kp : ∀ b ob, b ∉ [e, it] → s.heap.get? b = some ob → h''.get? b = some ob := fun b ob hb q => by
      have q1 : b ≠ e := fun z => hb (by simp [z])
      have q2 : b ≠ it := fun z => hb (by simp [z])
      exact (sb.2 b q1).trans (hk b ob q1 q2 q)
    have nw : ObjOk X.prog X.w (upd H s.heap.objs.size (.tup [.int (i : Nat), x])) h'' s.heap.objs.size (.tup [.int (i : Nat), x]) :=
      ⟨(by show 2 ≤ sizeLine; decide), [.int i tk, v], .cons ⟨_, rfl⟩ (.cons ru0 .nil), ⟨_, hT2, rfl, _, rfl⟩⟩
    have J : Inv X pins σ (upd H s.heap.objs.size (.tup [.int (i : Nat), x])) { s with heap := h'', toks := tk + 1 } := I.turnedNew (ch := [e, it]) kp hf (Nat.le_refl _) nw
    refine ⟨.ref s.heap.objs.size, _, J, rfl, ⟨_, x, rfl, I.hok.fresh (Nat.le_refl _), rfl, fun ys hy => by rw [I.tuple_inj hy sq]; exact hx⟩, ⟨⟨v, ?_⟩, hst.1.at fun o q => (sb.2 it (Ne.symm ne)).trans q, ne⟩, fun b hb => ?_⟩
    · have e1 : ((i + 1 : Nat) : Int) = (i : Int) + 1 := by omega
      rw [e1]
      exact hen'
    · have lb : b < s.heap.objs.size := by
        rcases List.mem_cons.mp hb with z | hb
        · rw [z]; exact le1
        · have z : b = it := by simpa using hb
          rw [z]; exact le2
      rw [upd_ne (Nat.ne_of_lt lb)]
      exact (hf b hb).1
  done := by
    intro X hP hw hK hc i pins s σ H E I hf st hg
    subst hP hw hK
    obtain ⟨⟨old, hen⟩, hti, ne⟩ := st
    obtain ⟨xs, sq, hx⟩ := hg
    obtain ⟨its, rv, tp, _⟩ := I.tuple sq
    have tp' : s.heap.IsTuple a its.toArray := tp
    obtain ⟨f0, f1, f2, f3, f4, f5⟩ := hf it (by simp)
    have hl := rv.length
    refine EnT.end2 (I.ok.hd hc) hen hti tp' (by simp; omega) fun h' eb => ?_
    exact ⟨rfl, I.turned (t' := s.toks) (fun b o hb q => eb b o hb q) f0 f1 f3 f4 f5⟩
  self := fun A i s Q E st h => by
    obtain ⟨⟨_, hen⟩, _⟩ := st
    exact wpAny_pyIter_enum hen h
def iEnumT (K : Frag) (ta : TA) : TI := fun σ H RR => ta σ H fun vs H1 => ∃ a xs, vs = [.ref a] ∧ SqT K H1 a xs ∧ RR (IteT K a) H1
theorem pi_enumT {X : Cx} {e : Expr} {ta : TA} {p pos tpos : Pos} {elts : List Expr} {kk : Nat} (hg : Gl X "enumerate") (hm : X.mg "enumerate" = none) (ha : PA X [e] ta) (hs : starEach [e] X.env = [(false, eval e X.env)] := by rfl) :
    PI X (.Tuple elts kk tpos) (.Call (.Name "enumerate" p) [e] [] pos) (iEnumT X.K ta) := by
  refine ⟨fun pins s σ H RR I h => ?_⟩
  refine Call_ (ld_blt I hg hm boot_enumerate (PyProof.Rows.callWith_type1 (thn (ha.run pos pins s σ H _ I h) fun us s1 ⟨vs, H1, I1, r1, q1⟩ => ?_) hs rfl))
  obtain ⟨a, xs, ev, sq, q⟩ := q1
  subst ev
  obtain ⟨u, hu, ru⟩ := vals1 r1
  subst hu
  cases ru
  obtain ⟨its, rv, tp, _⟩ := I1.tuple sq
  have tp' : s1.heap.IsTuple a its.toArray := tp
  refine EnT.call_new1 (begins_tuple a its.toArray) tp' fun h' hen hit _ hk => wpAny_pyIter_enum hen ?_
  have J : Inv X pins σ H1 { s1 with heap := h' } := I1.kept (t' := s1.toks) hk
  refine ⟨s1.heap.objs.size + 1, [s1.heap.objs.size + 1, s1.heap.objs.size], _, _, H1, rfl, J, turn_enumT a (s1.heap.objs.size + 1) s1.heap.objs.size, ⟨⟨.none, hen⟩, ⟨_, hit, rfl, rfl⟩, Nat.succ_ne_self _⟩, fun b hb => ?_, q⟩
  have le : s1.heap.objs.size ≤ b := by
    rcases List.mem_cons.mp hb with z | hb
    · rw [z]; exact Nat.le_succ _
    · have z : b = s1.heap.objs.size := by simpa using hb
      rw [z]; exact Nat.le_refl _
  exact I1.fpOk le (I1.hok.fresh le)
theorem walk_enumT {K : Frag} {a : Addr} {xs : List V} : Walk (IteT K a) xs.length (fun H => SqT K H a xs) (YPair (fun i => some (.int (i : Nat))) (fun i => xs[i]?)) := by
  refine ⟨fun i _ hi q => ⟨xs, xs[i], q, by simp [hi]⟩, fun _ q => ⟨xs, q, Nat.le_refl _⟩, fun i H v H' _ q y => ?_⟩
  obtain ⟨T, x, h1, h2, h3, h4⟩ := y
  exact ⟨T, .int (i : Nat), x, h1, h2, h3, rfl, h4 xs q⟩
end R
namespace R
open PySem PySem.Spec PyProof.Rows L2
open PySem.W (Frag)
theorem a_enumT {K : Frag} {tr : TA} {σ : L2.St} {H : Hp} {RR : It → Hp → Prop} (h : tr σ H fun vs H1 => ∃ a xs, vs = [.ref a] ∧ SqT K H1 a xs ∧ RR (IteT K a) H1) : iEnumT K tr σ H RR := h
end R

/-! ## a tuple times an int, 0 and 1 too -/
namespace R
open PySem PySem.Spec PyProof.Rows L2
open PySem.W (Frag)
theorem tup_times1 (l : Addr) (its : Array Value) (n : Nat) (dd : Option Addr) (sl : Array (Option Value)) (u : Tok) :
    Meets (Builtin.«tuple.__mul__» ⟨[.ref l, .int 1 u], []⟩) (fun _ RR s => s.heap.get? l = some { cls := .type "tuple", dict := dd, data := .seq its n, slots := sl } ∧ RR (.ok (.ret (.ref l))) s) := by
  refine .of_wp fun prog w A RR s h => ?_
  obtain ⟨hp0, gn, dr, tks, osx⟩ := s
  obtain ⟨hl, h⟩ := h
  have f1 := AutoSeq1.idx_int
  wp_walk using wpAny_loadPart' hl
  exact ⟨_, rfl, h⟩
theorem tup_times0 (l : Addr) (its : Array Value) (n : Nat) (dd : Option Addr) (sl : Array (Option Value)) (u : Tok) (hn : its.isEmpty = false) :
    Meets (Builtin.«tuple.__mul__» ⟨[.ref l, .int 0 u], []⟩) (fun _ RR s => s.heap.get? l = some { cls := .type "tuple", dict := dd, data := .seq its n, slots := sl } ∧
      RR (.ok (.ret (.ref s.heap.objs.size))) { s with heap := s.heap.push { cls := .type "tuple", data := .seq #[] } }) := by
  refine .of_wp fun prog w A RR s h => ?_
  obtain ⟨hp0, gn, dr, tks, osx⟩ := s
  obtain ⟨hl, h⟩ := h
  have f1 := AutoSeq1.idx_int
  wp_walk using wpAny_loadPart' hl
  exact ⟨_, rfl, h⟩
def rRepA (K : Frag) : R2 := fun x y H Q => ∃ l k xs, x = .ref l ∧ y = .int k ∧ SqT K H l xs ∧ xs ≠ [] ∧ 0 ≤ k ∧ k ≤ 1000 ∧ xs.length ≤ 1000 ∧
  (k = 1 → Q (.ref l) H) ∧ (k ≠ 1 → ∀ p, H p = none → Q (.ref p) (upd H p (.tup (List.replicate k.toNat xs).flatten)))
theorem op_mulT {X : Cx} : OpR X (binaryOp .Mult) (rRepA X.K) := by
  intro pins s σ H x y v u Q I rx ry h
  obtain ⟨l, k, xs, rfl, rfl, sq, ne, k0, k1, hz, q1, q2⟩ := h
  by_cases hk : 2 ≤ k
  · exact op_repT pins s σ H _ _ v u Q I rx ry ⟨l, k, xs, rfl, rfl, sq, ne, hk, k1, hz, q2 (by omega)⟩
  cases rx
  obtain ⟨t, rfl⟩ := ry
  obtain ⟨its, rv, ⟨⟨cls, dd, data, sl⟩, ho, hcl, n, hdt⟩, _⟩ := I.tuple sq
  simp only at hcl hdt
  subst hcl hdt
  have em : its.toArray.isEmpty = false := by
    cases its with
    | nil => cases rv; exact absurd rfl ne
    | cons a b => rfl
  have go : ∀ P : Value → Shared → Prop, wpAny (model X.prog X.w) X.A (call (.builtin "tuple.__mul__") [.ref l, .int k t]) P X.xe s → wpAny (model X.prog X.w) X.A (binaryOp .Mult (.ref l) (.int k t)) P X.xe s := fun P hh =>
    wpAny_binaryOp_repeat_ref (T := "tuple") (U := "int") (by decide) ⟨_, ho, rfl⟩ (fun s' => typeIs_int s' k t) noFill_tuple_mul F.fills_int_mul F.slot_int_rmul repeat_tuple F.slot_int_index.lookup
      (call_meets F.slot_int_rmul (typeIs_int s k t) F.entry_int_rmul (F.args_int_rmul_2 _ _) (int_rmul_tuple k t l its.toArray n dd sl) ⟨ho, rfl, ⟨_, ho, rfl⟩, hh⟩)
  refine go _ ?_
  by_cases h1 : k = 1
  · subst h1
    exact call_meets F.slot_tuple_mul ⟨_, ho, rfl⟩ F.entry_tuple_mul (F.args_tuple_mul_2 _ _) (tup_times1 l its.toArray n dd sl t) ⟨ho, ⟨.ref l, H, I, rfl, q1 rfl⟩⟩
  · have h0 : k = 0 := by omega
    subst h0
    refine call_meets F.slot_tuple_mul ⟨_, ho, rfl⟩ F.entry_tuple_mul (F.args_tuple_mul_2 _ _) (tup_times0 l its.toArray n dd sl t em) ⟨ho, ?_⟩
    have fr : H s.heap.objs.size = none := I.hok.fresh (Nat.le_refl _)
    have ob : ObjOk X.prog X.w (upd H s.heap.objs.size (.tup [])) (s.heap.push { cls := .type "tuple", data := .seq #[] }) s.heap.objs.size (.tup []) :=
      ⟨Nat.zero_le _, [], .nil, ⟨_, Heap.get?_push_size _ rfl, rfl, _, rfl⟩⟩
    have J : Inv X pins σ (upd H s.heap.objs.size (.tup [])) { s with heap := s.heap.push { cls := .type "tuple", data := .seq #[] } } := I.laid (t' := s.toks) (fun b o e => Heap.get?_push_of_some _ e) (Nat.le_refl _) ob
    exact ⟨.ref s.heap.objs.size, _, J, rfl, q2 (by decide) _ fr⟩
section
variable {K : Frag} {B H : Hp} {Lw : List (Addr × HO)} {p q : Addr} {xs ys : List V} {k : Int} {Q : VK}
/-- (x,) * k: some tuple of the base -/
theorem a_mulB (O : Own B Lw H) (h : B p = some (.tup xs)) (hx : xs ≠ []) (hl : xs.length ≤ 1000) (h0 : 0 ≤ k) (h1 : k ≤ 1000) (F : Addr → Prop) (fp : F p) (fn : ∀ r, B r = none → F r)
    (c : ∀ r B' H', Same B B' → Own B' Lw H' → B' r = some (.tup (List.replicate k.toNat xs).flatten) → F r → Q (.ref r) H') : rRepA K (.ref p) (.int k) H Q := by
  refine ⟨p, k, xs, rfl, rfl, O.tup (SqT.of h), hx, h0, h1, hl, fun e => ?_, fun _ r hr => ?_⟩
  · subst e
    have z : (List.replicate (1 : Int).toNat xs).flatten = xs := by simp
    exact c p B H (Same.refl B) O (by rw [z]; exact h) fp
  · have O2 := Own.new (o := .tup (List.replicate k.toNat xs).flatten) O hr
    exact c r _ _ O2.fixS O2.fix upd_same (fn r (O.free hr))
/-- t + u, both read; the outcome stands in the base -/
theorem a_catA (O : Own B Lw H) (ha : SqT K B p xs) (hb : SqT K B q ys) (hz : xs.length + ys.length ≤ 1000000) (F : Addr → Prop) (fp : F p) (fq : F q) (fn : ∀ r, B r = none → F r)
    (c : ∀ r B' H', Same B B' → Own B' Lw H' → SqT K B' r (xs ++ ys) → F r → Q (.ref r) H') : rCatA K (.ref p) (.ref q) H Q := by
  refine ⟨p, q, xs, ys, rfl, rfl, O.tup ha, O.tup hb, Nat.le_trans hz (by decide), fun e => ?_, fun _ e => ?_, fun _ _ r hr => ?_⟩
  · subst e; exact c q B H (Same.refl B) O hb fq
  · subst e; exact c p B H (Same.refl B) O (by rw [List.append_nil]; exact ha) fp
  · have O2 := Own.new (o := .tup (xs ++ ys)) O hr
    exact c r _ _ O2.fixS O2.fix (SqT.of upd_same) (fn r (O.free hr))
/-- both in the base as what they are -/
theorem a_catB (O : Own B Lw H) (ha : B p = some (.tup xs)) (hb : B q = some (.tup ys)) (hz : xs.length + ys.length ≤ 1000000) (F : Addr → Prop) (fp : F p) (fq : F q) (fn : ∀ r, B r = none → F r)
    (c : ∀ r B' H', Same B B' → Own B' Lw H' → B' r = some (.tup (xs ++ ys)) → F r → Q (.ref r) H') : rCatA K (.ref p) (.ref q) H Q := by
  refine ⟨p, q, xs, ys, rfl, rfl, O.tup (SqT.of ha), O.tup (SqT.of hb), Nat.le_trans hz (by decide), fun e => ?_, fun _ e => ?_, fun _ _ r hr => ?_⟩
  · subst e; exact c q B H (Same.refl B) O hb fq
  · subst e; exact c p B H (Same.refl B) O (by rw [List.append_nil]; exact ha) fp
  · have O2 := Own.new (o := .tup (xs ++ ys)) O hr
    exact c r _ _ O2.fixS O2.fix upd_same (fn r (O.free hr))
theorem same_tup {B B' : Hp} (s : Same B B') (h : SqT K B p xs) : SqT K B' p xs := by
  rcases h with (h | ⟨o, h⟩) | h
  · exact .inl (.inl (s _ _ h))
  · exact .inl (.inr ⟨o, s _ _ h⟩)
  · exact .inr h
end
end R

/-! ## fields of an own instance -/
namespace R
open PySem PySem.Spec PyProof.Rows L2
open PySem.W (Frag)
def rFld (K : Frag) (f : Str) : V → Hp → VK → Prop := fun x H Q => ∃ a C dx fs v, x = .ref a ∧ H a = some (.ins C dx fs) ∧ Cls K C ∧ NoAttr K C f ∧ fs.lookup f = some v ∧ Q v H
def rSetF (K : Frag) (f : Str) : V → V → Hp → (Hp → Prop) → Prop := fun x y H P => ∃ a C dx fs, x = .ref a ∧ H a = some (.ins C dx fs) ∧ Cls K C ∧ NoAttr K C f ∧ fs.length < 1000 ∧ P (upd H a (.ins C dx (putF f y fs)))
def NewI (C : Addr) (sp : Sp) (dvs : List V) (E : XK) (vs : List V) (H : Hp) (Q : VK) : Prop := ∀ x dx, H x = none → H dx = none → dx ≠ x →
  sp (.ref x :: (vs ++ dvs)) (upd (upd H dx (.own x)) x (.ins C dx [])) (fun v H2 => v = .non ∧ Q (.ref x) H2) E
section
variable {K : Frag} {f g : Str} {ta tv : TE} {σ : L2.St} {H B : Hp} {Q : VK} {D : Ends} {Lw : List (Addr × HO)} {a C dx : Addr} {fs : List (Str × V)} {v y : V}
theorem a_fld (h : ta σ H fun x H1 => rFld K f x H1 Q) : tFld K ta f σ H Q := h
theorem a_sfld (h : tv σ H fun y H1 => ta σ H1 fun x H2 => rSetF K f x y H2 fun H3 => D.nx σ H3) : sFld K ta tv f D σ H := h
theorem a_getF (h : H a = some (.ins C dx fs)) (cl : Cls K C) (n : NoAttr K C f) (hl : fs.lookup f = some v) (q : Q v H) : rFld K f (.ref a) H Q := ⟨a, C, dx, fs, v, rfl, h, cl, n, hl, q⟩
theorem a_setF {P : Hp → Prop} (O : Own B Lw H) (i : Nat) (h : Lw[i]? = some (a, .ins C dx fs)) (cl : Cls K C) (n : NoAttr K C f) (hl : fs.length < 1000) (q : ∀ H', Own B (Lw.set i (a, .ins C dx (putF f y fs))) H' → P H') : rSetF K f (.ref a) y H P :=
  ⟨a, C, dx, fs, rfl, O.get i h, cl, n, hl, q _ (O.put i h)⟩
theorem lk_eq : ((f, v) :: fs).lookup f = some v := by
  have hb : (f == f) = true := beq_iff_eq.mpr rfl
  simp only [List.lookup, hb]
theorem lk_ne (h : ¬ f = g) : ((g, v) :: fs).lookup f = fs.lookup f := by
  have hb : (f == g) = false := beq_eq_false_iff_ne.mpr h
  simp only [List.lookup, hb]
theorem put_ne (h : ¬ g = f) : putF f y ((g, v) :: fs) = (g, v) :: putF f y fs := by
  show (if g = f then (g, y) :: fs else (g, v) :: putF f y fs) = _
  rw [if_neg h]
theorem put_eq : putF f y ((f, v) :: fs) = (f, y) :: fs := by
  show (if f = f then (f, y) :: fs else (f, v) :: putF f y fs) = _
  rw [if_pos rfl]
theorem put_nil : putF f y [] = [(f, y)] := rfl
/-- a new instance -/
theorem a_make {sp : Sp} {dvs : List V} {E : XK} {t : TA} (h : t σ H fun vs H1 => NewI C sp dvs E vs H1 Q) : tMake C sp dvs E t σ H Q := h
end
end R

namespace R
open PySem PySem.Spec PyProof.Rows L2
open PySem.W (Frag)
variable {K : Frag} {v : V} {σ : L2.St} {H : Hp}
theorem a_glst {n : Nat} {gs : TGs} {p : Addr} {xs : List V} {Qs : L2.St → Hp → Prop} (hs : SqL K H p xs) (hl : xs.length = n) (h : gs xs σ H Qs) : gLst K n gs (.ref p) σ H Qs := ⟨p, xs, rfl, hs, hl, h⟩
theorem pg_lstK {X : Cx} {pos : Pos} {es : List Expr} {k : Nat} {t : TGs} {n : Nat} (hc : X.calm = true) (h : PGs X es t) (hK : X.K = K := by rfl) (hn : (assignEach es X.env).length = n := by rfl) (hst : (assignEach es X.env).findIdx? (·.1) = none := by rfl) : PG X (.Tuple es k pos) (gLst K n t) := by
  subst hK; exact pg_lst hc h hn hst
end R

/-! ## the numbers behind, and the first that fail -/
namespace R
open PySem PySem.Spec PyProof.Rows L2
open PySem.W (Frag)
/-- what a trick makes of n -/
def beh (b k t n : Int) : Int := n / b ^ k.toNat + t * (n % b ^ k.toNat)
/-- a number or None -/
def optV : Option Int → V
  | none => .non
  | some n => .int n
/-- the least number below i with p -/
def fstB (p : Int → Bool) (i : Nat) : Option Int := (List.range i).findSome? fun (j : Nat) => if p j = true then some (j : Int) else none
theorem fstB_zero {p : Int → Bool} : fstB p 0 = none := rfl
theorem fstB_step {p : Int → Bool} {i : Nat} : fstB p (i + 1) = (fstB p i).or (if p i = true then some (i : Int) else none) := by
  unfold fstB
  rw [List.range_succ, List.findSome?_append]
  congr 1
  cases c : p (i : Int) <;> simp [List.findSome?, c]
theorem fstB_yes {p : Int → Bool} {i : Nat} (h : fstB p i = none) (e : p i = true) : fstB p (i + 1) = some (i : Int) := by rw [fstB_step, h, if_pos e]; rfl
theorem fstB_no {p : Int → Bool} {i : Nat} (h : fstB p i = none) (e : p i = false) : fstB p (i + 1) = none := by rw [fstB_step, h, e]; rfl
theorem fstB_old {p : Int → Bool} {i : Nat} {x : Int} (h : fstB p i = some x) : fstB p (i + 1) = some x := by rw [fstB_step, h]; rfl
theorem fstB_hit {p : Int → Bool} {i : Nat} (h : fstB p i = none) (e : p i = true) : ∀ n : Nat, i < n → fstB p n = some (i : Int) := find_hit h (if_pos e)
theorem fstB_none {p : Int → Bool} {n : Nat} (h : fstB p n = none) {x : Int} (h0 : 0 ≤ x) (h1 : x < n) : p x = false := by
  unfold fstB at h
  rw [List.findSome?_eq_none_iff] at h
  have q := h x.toNat (List.mem_range.mpr (by omega))
  have e : ((x.toNat : Nat) : Int) = x := by omega
  rw [e] at q
  cases c : p x with
  | false => rfl
  | true => rw [if_pos c] at q; cases q
theorem fstB_some {p : Int → Bool} {n : Nat} {x : Int} (h : fstB p n = some x) : 0 ≤ x ∧ x < n ∧ p x = true := by
  unfold fstB at h
  obtain ⟨i, hi, e⟩ := List.exists_of_findSome?_eq_some h
  have h1 := List.mem_range.mp hi
  split at e
  · rename_i c
    cases e
    exact ⟨by omega, by omega, c⟩
  · cases e
/-- no rest is kept; a multiple and none -/
def unl (b k t d n : Int) : Bool := !decide (n % d = beh b k t n % d)
def fls (b k t d n : Int) : Bool := decide (n % d = 0) != decide (beh b k t n % d = 0)
theorem beh_turn {b k t d q m : Int} (hB : 0 < b ^ k.toNat) : beh b k t (q * (d * b ^ k.toNat) + m) = q * d + beh b k t m := by
  unfold beh
  generalize b ^ k.toNat = B at *
  have e : q * (d * B) + m = m + B * (q * d) := by
    rw [← Int.mul_assoc, Int.mul_comm (q * d) B]; omega
  rw [e, Int.add_mul_ediv_left _ _ (by omega), Int.add_mul_emod_self_left]
  omega
theorem turn_of {b k t d : Int} (hB : 0 < b ^ k.toNat) (hd : 0 < d) (n : Int) : ∃ m : Int, 0 ≤ m ∧ m < d * b ^ k.toNat ∧ n % d = m % d ∧ beh b k t n % d = beh b k t m % d := by
  have h : 0 < d * b ^ k.toNat := Int.mul_pos hd hB
  refine ⟨n % (d * b ^ k.toNat), Int.emod_nonneg _ (by omega), Int.emod_lt_of_pos _ h, ?_, ?_⟩
  · rw [Int.emod_emod_of_dvd _ (Int.dvd_mul_right d _)]
  · have e := Int.mul_ediv_add_emod n (d * b ^ k.toNat)
    rw [Int.mul_comm] at e
    have q := beh_turn (t := t) (d := d) (q := n / (d * b ^ k.toNat)) (m := n % (d * b ^ k.toNat)) hB
    rw [e] at q
    rw [q, Int.add_comm, Int.add_mul_emod_self_right]
theorem unl_all {b k t d : Int} (hB : 0 < b ^ k.toNat) (hd : 0 < d) (h : fstB (unl b k t d) (d * b ^ k.toNat).toNat = none) (n : Int) : unl b k t d n = false := by
  obtain ⟨m, h0, h1, e1, e2⟩ := turn_of (t := t) hB hd n
  have q := fstB_none h h0 (by omega)
  unfold unl at *
  rw [e1, e2]; exact q
theorem fls_all {b k t d : Int} (hB : 0 < b ^ k.toNat) (hd : 0 < d) (h : fstB (fls b k t d) (d * b ^ k.toNat).toNat = none) (n : Int) : fls b k t d n = false := by
  obtain ⟨m, h0, h1, e1, e2⟩ := turn_of (t := t) hB hd n
  have q := fstB_none h h0 (by omega)
  unfold fls at *
  rw [e1, e2]; exact q
section
variable {H : Hp} {Q : VK}
theorem a_neB {p q : Bool} (h : Q (.bl (p != q)) H) : rNe (.bl p) (.bl q) H Q := ⟨rfl, by rw [dec_bl]; exact h⟩
theorem a_eqB {p q : Bool} (h : Q (.bl (p == q)) H) : rEq (.bl p) (.bl q) H Q := ⟨rfl, by rw [dec_bl]; exact h⟩
theorem a_isO1 (h : Q (.bl true) H) : rIsN (optV none) .non H Q := a_isN1 h
theorem a_isO0 {n : Int} (h : Q (.bl false) H) : rIsN (optV (some n)) .non H Q := a_isN0 (fun z => by cases z) h
theorem a_notO1 (h : Q (.bl false) H) : rNotN (optV none) .non H Q := a_notN1 h
theorem a_notO0 {n : Int} (h : Q (.bl true) H) : rNotN (optV (some n)) .non H Q := a_notN0 (fun z => by cases z) h
theorem a_neO {o : Option Int} (h : Q (.bl false) H) : rNe (optV o) (optV o) H Q := by
  refine ⟨?_, ?_⟩
  · cases o <;> rfl
  · rw [decide_eq_true rfl]; exact h
end
end R
namespace R
open PySem PySem.Spec PyProof.Rows L2
theorem a_par3 {i j l : Nat} {tr : TA} {D : Ends} {σ : L2.St} {H : Hp} (h : tr σ H fun vs H1 => ∃ u v w, vs = [u, v, w] ∧ D.nx (((σ.set i (some u)).set j (some v)).set l (some w)) H1) : tPar3 i j l tr D σ H := h
theorem a_par33 {x y z : V} {A : V → V → V → Prop} (h : A x y z) : ∃ u v w, [x, y, z] = [u, v, w] ∧ A u v w := ⟨x, y, z, rfl, h⟩
end R

/-! ## sums of blocks, the plain side -/
namespace R
open PySem PySem.Spec PyProof.Rows L2
open PySem.W (Frag)
/-- the weight of a block -/
def wt (f l : List Int) (i : Nat) : Int := if i < f.length then (f[i]?).getD 0 else (l[(i - f.length) % l.length]?).getD 0
def nS (B n : Int) : Nat → Int
  | 0 => n
  | i + 1 => nS B n i / B
def sS (f l : List Int) (B n : Int) : Nat → Int
  | 0 => 0
  | i + 1 => sS f l B n i + wt f l i * (nS B n i % B)
/-- r is the sum for n -/
def totR (f l : List Int) (B n r : Int) : Prop := ∃ i, ¬ 0 < nS B n i ∧ (∀ j, j < i → 0 < nS B n j) ∧ r = sS f l B n i
theorem totR_one {f l : List Int} {B n r r' : Int} (h : totR f l B n r) (h' : totR f l B n r') : r = r' := by
  obtain ⟨i, a1, a2, a3⟩ := h
  obtain ⟨j, b1, b2, b3⟩ := h'
  have e : i = j := by
    by_cases c : i < j
    · exact absurd (b2 i c) a1
    · by_cases d : j < i
      · exact absurd (a2 j d) b1
      · omega
  rw [a3, b3, e]
structure SumOk (b k : Int) (f l : List Int) : Prop where
  hb : 2 ≤ b ∧ b ≤ 16
  hk : 1 ≤ k ∧ k ≤ 2
  hf : f.length ≤ 12
  hl : 1 ≤ l.length ∧ l.length ≤ 12
  wf : ∀ w ∈ f, -(10 ^ 6) ≤ w ∧ w ≤ 10 ^ 6
  wl : ∀ w ∈ l, -(10 ^ 6) ≤ w ∧ w ≤ 10 ^ 6
theorem SumOk.wt {b k : Int} {f l : List Int} (h : SumOk b k f l) (i : Nat) : -(10 ^ 6) ≤ R.wt f l i ∧ R.wt f l i ≤ 10 ^ 6 := by
  unfold R.wt
  by_cases c : i < f.length
  · rw [if_pos c, List.getElem?_eq_getElem c]
    exact h.wf _ (List.getElem_mem c)
  · have q : (i - f.length) % l.length < l.length := Nat.mod_lt _ h.hl.1
    rw [if_neg c, List.getElem?_eq_getElem q]
    exact h.wl _ (List.getElem_mem q)
end R

namespace R
/-- the powers of B by their rests -/
def pw (B d : Nat) : Nat → Nat
  | 0 => 1 % d
  | i + 1 => pw B d i * B % d
def runP (B d : Nat) : Nat → Nat → List Nat
  | 0, x => [x]
  | n + 1, x => x :: runP B d n (x * B % d)
def okP : List Nat → Bool
  | [] => true
  | [_] => true
  | x :: y :: l => okQ x y (y :: l) && okP (y :: l)
where okQ (x y : Nat) : List Nat → Bool
  | u :: v :: l => (y != v || x == u) && okQ x y (v :: l)
  | _ => true
def allP : Bool := (List.range 31).all fun d => (List.range 31).all fun r => okP (runP r d 15 (pw r d 5))
theorem allP_ok : allP = true := by decide +kernel
end R
namespace R
theorem okQ_imp {x y : Nat} : ∀ {M : List Nat} (_ : okP.okQ x y M = true) (k : Nat) (h : k + 1 < M.length), y = M[k + 1] → x = M[k]
  | [], _, k, h, _ => by simp at h
  | [_], _, k, h, _ => by simp at h
  | u :: v :: l, o, 0, _, e => by
    unfold okP.okQ at o
    rw [Bool.and_eq_true] at o
    have q := o.1
    simp only [List.getElem_cons_succ, List.getElem_cons_zero] at e ⊢
    simpa [e] using q
  | u :: v :: l, o, k + 1, h, e => by
    unfold okP.okQ at o
    rw [Bool.and_eq_true] at o
    exact okQ_imp (M := v :: l) o.2 k (by simpa using h) e
theorem okP_imp : ∀ {L : List Nat} (_ : okP L = true) (a c : Nat) (_ : a < c) (h : c + 1 < L.length), L[a + 1] = L[c + 1] → L[a] = L[c]
  | [], _, a, c, _, h, _ => by simp at h
  | [_], _, a, c, _, h, _ => by simp at h
  | x :: y :: l, o, 0, c + 1, _, h, e => by
    unfold okP at o
    rw [Bool.and_eq_true] at o
    exact okQ_imp o.1 c (by simpa using h) e
  | x :: y :: l, o, a + 1, c + 1, hac, h, e => by
    unfold okP at o
    rw [Bool.and_eq_true] at o
    exact okP_imp (L := y :: l) o.2 a c (by omega) (by simpa using h) e
theorem pw_mod (B d : Nat) : ∀ i, pw (B % d) d i = pw B d i
  | 0 => rfl
  | i + 1 => by
    show pw (B % d) d i * (B % d) % d = pw B d i * B % d
    rw [pw_mod B d i, Nat.mul_mod, Nat.mod_mod, ← Nat.mul_mod]
theorem runP_len (B d : Nat) : ∀ n x, (runP B d n x).length = n + 1
  | 0, _ => rfl
  | n + 1, x => by show (runP B d n _).length + 1 = n + 1 + 1; rw [runP_len B d n]
theorem runP_at (B d : Nat) : ∀ (n s k : Nat) (h : k < (runP B d n (pw B d s)).length), (runP B d n (pw B d s))[k] = pw B d (s + k)
  | 0, s, k, h => by
    have e : k = 0 := by
      have : k < 1 := h
      omega
    subst e; rfl
  | n + 1, s, 0, h => rfl
  | n + 1, s, k + 1, h => by
    have q := runP_at B d n (s + 1) k (by rw [runP_len] at h ⊢; omega)
    rw [show s + (k + 1) = s + 1 + k by omega]
    exact q
/-- how many powers stand ahead of those that come again -/
theorem few {B d i j : Nat} (hd : d ≤ 30) (hd0 : 0 < d) (hi : i ≤ 20) (hj : j < i) (e : pw B d j = pw B d i) (dis : ∀ a b, a < b → b < i → pw B d a ≠ pw B d b) : j ≤ 5 := by
  by_cases c : j ≤ 5
  · exact c
  · exfalso
    have hr : B % d < d := Nat.mod_lt _ hd0
    have o := allP_ok
    unfold allP at o
    rw [List.all_eq_true] at o
    have o1 := o d (List.mem_range.mpr (by omega))
    rw [List.all_eq_true] at o1
    have o2 := o1 (B % d) (List.mem_range.mpr (by omega))
    have q := okP_imp o2 (j - 6) (i - 6) (by omega) (by rw [runP_len]; omega)
    rw [runP_at, runP_at, runP_at, runP_at, pw_mod, pw_mod, pw_mod, pw_mod] at q
    rw [show 5 + (j - 6 + 1) = j by omega, show 5 + (i - 6 + 1) = i by omega, show 5 + (j - 6) = j - 1 by omega, show 5 + (i - 6) = i - 1 by omega] at q
    exact dis (j - 1) (i - 1) (by omega) (by omega) (q e)
end R

/-! ## lists of ints: in, index, slices -/
namespace R
open PySem PySem.Spec PyProof.Rows L2
open PySem.W (Frag)
theorem flat_ints (ms : List Int) : (ms.map V.int).all flatV = true := by
  rw [List.all_map]; exact List.all_eq_true.mpr fun _ _ => rfl
theorem inV_ints (r : Int) (ms : List Int) : inV (.int r) (ms.map V.int) = decide (r ∈ ms) := by
  unfold inV
  rw [List.any_map, Bool.eq_iff_iff, List.any_eq_true, decide_eq_true_iff]
  constructor
  · rintro ⟨x, hx, e⟩
    have e : (x == r) = true := e
    rw [beq_iff_eq] at e
    rw [← e]; exact hx
  · intro h
    exact ⟨r, h, by show (r == r) = true; exact beq_self_eq_true r⟩
section
variable {K : Frag} {B H : Hp} {Lw : List (Addr × HO)} {p : Addr} {r : Int} {ms : List Int} {Q : VK}
theorem a_inI (hs : SqL K H p (ms.map V.int)) (h : Q (.bl (decide (r ∈ ms))) H) : rIn K false (.int r) (.ref p) H Q :=
  ⟨p, _, rfl, .inl hs, rfl, flat_ints ms, by show Q (.bl (inV _ _)) H; rw [inV_ints]; exact h⟩
theorem a_ninI (hs : SqL K H p (ms.map V.int)) (h : Q (.bl (!decide (r ∈ ms))) H) : rIn K true (.int r) (.ref p) H Q :=
  ⟨p, _, rfl, .inl hs, rfl, flat_ints ms, by show Q (.bl (!inV _ _)) H; rw [inV_ints]; exact h⟩
theorem a_indexI {j : Nat} (hs : SqL K H p (ms.map V.int)) (hj : ms[j]? = some r) (hm : ∀ (m : Nat) (z : Int), m < j → ms[m]? = some z → z ≠ r) (h : Q (.int (j : Nat)) H) : rIndex K (.ref p) [.int r] H Q :=
  ⟨p, _, .int r, j, .int r, rfl, rfl, hs, rfl, flat_ints ms, by rw [List.getElem?_map, hj]; rfl, by show (r == r) = true; exact beq_self_eq_true r, fun m z' hm' e => by
    rw [List.getElem?_map] at e
    cases q : ms[m]? with
    | none => rw [q] at e; cases e
    | some z =>
      rw [q] at e
      have e : V.int z = z' := Option.some.inj e
      rw [← e]
      show (z == r) = false
      exact beq_eq_false_iff_ne.mpr (hm m z hm' q), h⟩
theorem cut_to (ms : List Int) (k : Nat) : cutV (ms.map V.int) none (some (k : Int)) = (ms.take k).map V.int := by
  unfold cutV
  rw [HT.sIx_none, HT.sIx_nat, List.drop_zero, Nat.sub_zero, List.map_take]
  by_cases c : k ≤ (ms.map V.int).length
  · rw [Nat.min_eq_left c]
  · rw [Nat.min_eq_right (by omega), List.take_of_length_le (by omega), List.take_of_length_le (by omega)]
theorem cut_from (ms : List Int) (k : Nat) : cutV (ms.map V.int) (some (k : Int)) none = (ms.drop k).map V.int := by
  unfold cutV
  rw [HT.sIx_none, HT.sIx_nat, List.map_drop]
  by_cases c : k ≤ (ms.map V.int).length
  · rw [Nat.min_eq_left c]
    exact List.take_of_length_le (by rw [List.length_drop]; omega)
  · rw [Nat.min_eq_right (by omega), List.drop_of_length_le (by omega), List.drop_of_length_le (by omega), List.take_nil]
theorem a_slTo {k : Nat} {n : Int} (hn : n = (k : Int)) (O : Own B Lw H) (hs : SqL K H p (ms.map V.int)) (q : ∀ l H', H l = none → Own B ((l, .lst ((ms.take k).map V.int)) :: Lw) H' → Q (.ref l) H') : rSlL K (.ref p) none (some n) H Q := by
  subst hn
  exact ⟨p, _, rfl, hs, fun l hl => by rw [cut_to]; exact q l _ hl (O.new hl)⟩
theorem a_slFrom {k : Nat} {n : Int} (hn : n = (k : Int)) (O : Own B Lw H) (hs : SqL K H p (ms.map V.int)) (q : ∀ l H', H l = none → Own B ((l, .lst ((ms.drop k).map V.int)) :: Lw) H' → Q (.ref l) H') : rSlL K (.ref p) (some n) none H Q := by
  subst hn
  exact ⟨p, _, rfl, hs, fun l hl => by rw [cut_from]; exact q l _ hl (O.new hl)⟩
end
theorem first_in {r : Int} : ∀ {ms : List Int}, r ∈ ms → ∃ j : Nat, ms[j]? = some r ∧ ∀ (m : Nat) (z : Int), m < j → ms[m]? = some z → z ≠ r
  | [], h => by simp at h
  | x :: l, h => by
    by_cases c : x = r
    · exact ⟨0, by rw [c]; rfl, fun m z hm => by omega⟩
    · rcases List.mem_cons.mp h with z | z
      · exact absurd z.symm c
      · obtain ⟨j, h1, h2⟩ := first_in z
        refine ⟨j + 1, h1, fun m z hm e => ?_⟩
        cases m with
        | zero =>
          have e : x = z := Option.some.inj e
          rw [← e]; exact c
        | succ m => exact h2 m z (by omega) e
/-- the powers' rests as ints -/
def PL (B d i : Nat) : List Int := (List.range i).map fun j => ((pw B d j : Nat) : Int)
theorem PL_succ (B d i : Nat) : PL B d (i + 1) = PL B d i ++ [((pw B d i : Nat) : Int)] := by
  unfold PL
  rw [List.range_succ, List.map_append]; rfl
theorem PL_len (B d i : Nat) : (PL B d i).length = i := by unfold PL; rw [List.length_map, List.length_range]
theorem PL_at {B d i j : Nat} (h : j < i) : (PL B d i)[j]? = some ((pw B d j : Nat) : Int) := by
  unfold PL
  rw [List.getElem?_map, List.getElem?_range h]; rfl
theorem PL_mem {B d i : Nat} {x : Int} (h : x ∈ PL B d i) : ∃ j, j < i ∧ x = ((pw B d j : Nat) : Int) := by
  obtain ⟨j, h1, h2⟩ := List.mem_map.mp h
  exact ⟨j, List.mem_range.mp h1, h2.symm⟩
theorem pw_lt {B d : Nat} (hd : 0 < d) : ∀ i, pw B d i < d
  | 0 => Nat.mod_lt _ hd
  | i + 1 => Nat.mod_lt _ hd
theorem PL_bd {B d i : Nat} (hd : 0 < d) {x : Int} (h : x ∈ PL B d i) : 0 ≤ x ∧ x < d := by
  obtain ⟨j, _, rfl⟩ := PL_mem h
  have := pw_lt (B := B) hd j
  omega
theorem pw_zero (B d : Nat) : (1 : Int) % (d : Int) = ((pw B d 0 : Nat) : Int) := rfl
theorem pw_next (B d i : Nat) : ((pw B d i : Nat) : Int) * (B : Int) % (d : Int) = ((pw B d (i + 1) : Nat) : Int) := rfl
end R

/-! ## what a call has changed of one owned thing, and laid anew -/
namespace R
open PySem L2
theorem Own.comp {B H H' : Hp} {Lw New : List (Addr × HO)} {row : Addr} {o o' : HO} (O : Own B Lw H) (i : Nat) (h : Lw[i]? = some (row, o)) (O2 : Own (del1 H row) (New ++ [(row, o')]) H') : Own B (New ++ Lw.set i (row, o')) H' := by
  have hB := O.gone i h
  have hR : H' row = some o' := O2.ow (row, o') (List.mem_append.mpr (.inr (List.mem_singleton.mpr rfl)))
  have nd2 := O2.nd
  rw [List.map_append, List.nodup_append] at nd2
  have old : ∀ x ∈ Lw, x.1 ≠ row → H' x.1 = some x.2 := fun x hx ne => O2.st _ _ (by rw [del1_ne ne]; exact O.ow x hx)
  have hk : (Lw.set i (row, o')).map (·.1) = Lw.map (·.1) := set_map1 h
  refine ⟨fun a v e => O2.st a v ?_, fun q hq => ?_, fun q hq => ?_, ?_⟩
  · rw [del1_ne (fun z => by rw [z, hB] at e; cases e)]
    exact O.st _ _ e
  · rcases List.mem_append.mp hq with hq | hq
    · exact O2.ow q (List.mem_append.mpr (.inl hq))
    · rcases mem_set1 O.nd h hq with rfl | ⟨h1, h2⟩
      · exact hR
      · exact old q h1 h2
  · rcases List.mem_append.mp hq with hq | hq
    · have z := O2.no q (List.mem_append.mpr (.inl hq))
      cases e : B q.1 with
      | none => rfl
      | some v =>
        rw [del1_ne (fun y => by rw [y, hB] at e; cases e), O.st _ _ e] at z
        cases z
    · rcases mem_set1 O.nd h hq with rfl | ⟨h1, h2⟩
      · exact hB
      · exact O.no q h1
  · rw [List.map_append, List.nodup_append, hk]
    refine ⟨nd2.1, O.nd, fun a ha c hc e => ?_⟩
    subst e
    obtain ⟨q, hq, rfl⟩ := List.mem_map.mp ha
    obtain ⟨x, hx, ex⟩ := List.mem_map.mp hc
    by_cases z : q.1 = row
    · exact nd2.2.2 q.1 ha row (List.mem_map.mpr ⟨(row, o'), List.mem_singleton.mpr rfl, rfl⟩) z
    · have y := O2.no q (List.mem_append.mpr (.inl hq))
      rw [del1_ne z, ← ex, O.ow x hx] at y
      cases y
end R

/-! ## own exceptions: classes under an own base, several clauses, calls of a value -/
namespace R
open PySem PySem.Spec PyProof.Rows L2
open PySem.W (Frag)
/-- what the own base must have so that Base.__init__ is ValueError's -/
structure OinC (K : Frag) (C : Addr) : Prop where
  rd : PySem.W.readsIn K C (.type "type") = true
  ga : PySem.W.specialIn K (.ref C) "__getattribute__" = some (some (.builtin "type.__getattribute__"))
  at_ : PySem.W.findCls K (.ref C) (.type "type") "__init__" = some (.val (.builtin "ValueError.__init__"))
section
variable {X : Cx} {x : Str} {CT : Addr} {e : Expr} {es : List Expr} {ta : TA} {p1 p2 pos : Pos}
theorem pe_oeinit {pl : Sem Bool} (hg : Gl X x) (hm : X.mg x = some (.ref CT)) (T : OinC X.K CT) (ha : PA X (e :: es) ta) (hdb : (x == ("__debug__" : Str)) = false := by decide)
    (hc : eval (.Call (.Attribute (.Name x p1) "__init__" p2) (e :: es) [] pos) X.env = (do
      let ov ← eval (.Name x p1) X.env
      standAt p2.atName
      let (f, first) ← holding [ov] (getMethod ov "__init__" pl)
      callWith pos f first (backTo pos (starEach (e :: es) X.env)) (backToKw pos (keywordEach [] X.env))) := by rfl)
    (he : starEach (e :: es) X.env = (false, eval e X.env) :: starEach es X.env := by rfl) (hpl : (backTo pos (starEach es X.env)).any (·.1) = false := by rfl) :
    PE X (.Call (.Attribute (.Name x p1) "__init__" p2) (e :: es) [] pos) (tVeI X.K ta) := by
  refine ⟨fun pins s σ H Q I h => ?_⟩
  refine PySem.W.methodCall_KW (ld_glob I hg hm ?_ hdb) hc
  refine PySem.W.method_cls I.kIn T.ga (PySem.W.cls_value I.kIn T.rd T.at_ (by decide +kernel) ?_)
  show wpAny _ _ (callWith pos (Value.builtin "ValueError.__init__") [] (backTo pos (starEach (e :: es) X.env)) []) _ _ _
  refine PyProof.Rows.callWith_method1 (thn (ha.run pos pins _ σ H _ (I.tok _) h) fun us s1 ⟨vs, H1, I1, r1, a, C, ws, ev, hl, T, ea, q⟩ => ?_) he hpl
  subst ev
  cases r1 with
  | @cons _ u0 _ ur ra rw' =>
    obtain rfl : u0 = Value.ref a := ra
    have hlen : ur.length ≤ sizeLine := by
      rw [← Paired.length rw', sizeLine_eq]
      omega
    exact oinit_ok T I1 ea hlen fun s' J => ⟨.non, H1, J, rfl, q⟩
end
/-- what an __init__ of an own exception promises: without a field, with one -/
def sp_exc0 (C : Addr) : Sp := fun vs H Q _ => ∃ a, vs = [.ref a] ∧ H a = some (exo a C none) ∧ Q .non H
def sp_exc1 (C : Addr) (f : Str) : Sp := fun vs H Q _ => ∃ a v, vs = [.ref a, v] ∧ H a = some (exo a C none) ∧ ∀ dx, H dx = none → dx ≠ a → Q .non (upd (upd H dx (exd dx [(f, v)])) a (exo a C (some dx)))
theorem del_upd {H : Hp} {a : Addr} {o : HO} (h : H a = none) : del (upd H a o) a = H := by
  funext b
  by_cases z : b = a
  · rw [z, del_same, h]
  · rw [del_ne z, upd_ne z]
section
variable {X : Cx}
theorem mk_endN {pins : List (Addr × Obj)} {σ : L2.St} {H1 H2 : Hp} {Q : XK} {hp hp2 h2 : Heap} {g1 g2 : Array GenState} {d1 d2 : Drawn} {t1 t2 : Nat} {os1 os2 : OsState} {a C : Addr} (T : Raises X (.ref C)) (I1 : Inv X pins σ H1 ⟨hp, g1, d1, t1, os1⟩)
    (ha : hp.objs.size ≤ a) (k : ∀ b o, hp.get? b = some o → hp2.get? b = some o) (un : Un (frs X.stack) [] (upd H1 a (exo a C none)) H2 hp2 h2) (hok : HOk X.prog X.w H2 h2) (ho : os2 = os1) (hb : AllBare g2)
    (ea : H2 a = some (exo a C none)) (q : Q (.ref C) none (del H2 a)) : MkP X pins σ Q (.ref a) ⟨h2, g2, d2, t2, os2⟩ := by
  obtain ⟨t0, hoe⟩ := exo_at hok ea
  have hn : H1 a = none := I1.hok.fresh ha
  obtain ⟨G, g1', g2'⟩ := restrict h2 fun b => decide (b ≠ a)
  have gk : ∀ b, b ≠ a → G.get? b = h2.get? b := fun b hb => g1' b (decide_eq_true hb)
  have ge : G.get? a = none := g2' a (by simp)
  have nha : ∀ {b : Addr} {o : Obj}, hp.get? b = some o → b ≠ a := fun {b o} z => Nat.ne_of_lt (Nat.lt_of_lt_of_le (Heap.lt_size z) ha)
  have up : ∀ {b : Addr}, b ≠ a → H1 b = none → upd H1 a (exo a C none) b = none := fun {b} hb n => by rw [upd_ne hb]; exact n
  have U : Un (frs X.stack) [] H1 (del H2 a) hp G := {
    keep := fun b o z n hf hx => by
      rw [gk b (nha z)]
      exact un.keep b o (k b o z) (up (nha z) n) hf hx
    slot := fun b o z n hf hx => by
      rw [gk b (nha z)]
      exact un.slot b o (k b o z) (up (nha z) n) hf hx
    free := fun b o z n hx => by
      rw [del_ne (nha z)]
      exact un.free b o (k b o z) (up (nha z) n) hx
    there := fun b o z hx => by
      rw [gk b (nha z)]
      exact un.there b o (k b o z) hx
    tups := fun b xs z => by
      rw [del_ne (ne_of_none z hn)]
      exact un.tups b xs (by rw [upd_ne (ne_of_none z hn)]; exact z)
    frzs := fun b o v z => by
      rw [del_ne (ne_of_none z hn)]
      exact un.frzs b o v (by rw [upd_ne (ne_of_none z hn)]; exact z)
    tbls := fun b ps z => by
      rw [del_ne (ne_of_none z hn)]
      exact un.tbls b ps (by rw [upd_ne (ne_of_none z hn)]; exact z) }
  have hok3 : HOk X.prog X.w (del H2 a) G := fun b o z => by
    have hba : b ≠ a := fun e => by
      rw [e, del_same] at z
      cases z
    rw [del_ne hba] at z
    have noa : ∀ {c : Addr}, H2 c = some (.own b) → c ≠ a := fun {c} hc => at_ne ea hc exo_own
    exact (hok b o z).stay (fun c v hc y => by
        have hca : c ≠ a := by
          rcases hc with hc | hc
          · rw [hc]
            exact hba
          · exact noa hc
        rw [gk c hca]
        exact y)
      (fun c hc => by rw [del_ne (noa hc)]; exact hc) (fun c xs hc => by rw [del_ne (at_ne ea hc exo_tup)]; exact hc)
  have J : Inv X pins σ (del H2 a) ⟨G, g2, d2, t2, os2⟩ := I1.call' (ch := []) ho U hok3 hb (fun b z => absurd z (by simp))
  refine ⟨a, _, _, ⟨G, g2, d2, t2, os2⟩, _, .ref C, none, rfl, J, fun b o z => ?_, ge, hoe, ⟨rfl, rfl⟩, rfl, rfl, del_same, rfl, hb, T, q⟩
  by_cases hba : b = a
  · rw [hba, ge] at z
    cases z
  · exact (gk b hba).symm.trans z
variable {x : Str} {C fI : Addr} {k : Nat} {fd : FuncData} {ps : List Str} {p pos pos2 : Pos} {W : WX} {f : Str} {e : Expr} {ta : TA}
/-- C() -/
theorem pmk_bad0 (T : OexC X.K C) (iC : PySem.W.findIn X.K (.ref C) "__init__" = some (some (.ref fI))) (tI : PySem.W.typeIn X.K (.ref fI) = some (.type "function"))
    (F1 : FnOk X.prog X.w X.K X.mg X.base CX0 k fI fd ps (sp_exc0 C)) (hr : Room (k + 1) X.A) (hb : Binds X.K fd ps []) (hg : Gl X x) (hm : X.mg x = some (.ref C)) (hdb : (x == ("__debug__" : Str)) = false := by decide) :
    PMk X (.Call (.Name x p) [] [] pos) (fun _ H Q => Q (.ref C) none H) := by
  intro pins s σ H Q I h
  obtain ⟨nm, q, N, bs, bm, sn, sub, ab, col, dd, k0, k1, k2, k3, k5, hC, hbm⟩ := T.cls
  refine wpAny_Call_Name_kw (ld_glob I hg hm ?_ hdb)
  refine PySem.W.callWith_K0 I.kIn T.kC ?_
  show wpAny _ _ (call (.ref C) []) _ _ _
  obtain ⟨hp, g, dr, tk, os⟩ := s
  have hsz : hp.objs.size ≤ hp.objs.size + 1 := Nat.le_succ _
  have hn : H (hp.objs.size + 1) = none := I.hok.fresh hsz
  have hq : sp_exc0 C [V.ref (hp.objs.size + 1)] (upd H (hp.objs.size + 1) (exo (hp.objs.size + 1) C none)) (fun v H2 => v = .non ∧ H2 (hp.objs.size + 1) = some (exo (hp.objs.size + 1) C none) ∧ Q (.ref C) none (del H2 (hp.objs.size + 1))) (fun _ _ _ => False) :=
    ⟨_, rfl, upd_same, rfl, upd_same, by rw [del_upd hn]; exact h⟩
  have kk : ∀ b o, hp.get? b = some o → ((hp.push (PySem.W.kdv_tup [])).push (PySem.HandSPX.excO C hp.objs.size)).get? b = some o := fun b o e => Heap.get?_push_of_some _ (Heap.get?_push_of_some _ e)
  have hget : ((hp.push (PySem.W.kdv_tup [])).push (PySem.HandSPX.excO C hp.objs.size)).get? (hp.objs.size + 1) = some (PySem.HandSPX.excO C hp.objs.size) := by heap_get
  have I2 : Inv X pins σ (upd H (hp.objs.size + 1) (exo (hp.objs.size + 1) C none)) ⟨(hp.push (PySem.W.kdv_tup [])).push (PySem.HandSPX.excO C hp.objs.size), g, dr, tk, os⟩ :=
    I.laid (t' := tk) (a := hp.objs.size + 1) (o := exo (hp.objs.size + 1) C none) (h' := (hp.push (PySem.W.kdv_tup [])).push (PySem.HandSPX.excO C hp.objs.size)) kk hsz (exo_ok hget)
  have r2 : Vals [V.ref (hp.objs.size + 1)] [Value.ref (hp.objs.size + 1)] := .cons rfl .nil
  have hl : ([Value.ref (hp.objs.size + 1)] ++ []).length = ps.length := by
    have e := r2.length
    rw [F1.len _ _ _ _ hq] at e
    exact e.symm
  refine wpAny_call (PySem.HandSPX.call_own F.excBase_ValueError (fun Y => PySem.HandSPX.refsVE_contains Y bm hbm) (I.kIn _ _ hC) (PySem.W.looks_findIn I.kIn iC) (fun self => PySem.W.bind_fn I.kIn self tI) (Nat.zero_le _)
    (codeAny_mono (F1.run _ X.stack _ _ ⟨[Value.ref (hp.objs.size + 1)], []⟩ [Value.ref (hp.objs.size + 1)] _ _ (fun _ _ _ => False) (hr.make C [] []) (I2.env0.make C [] []) (hb _ [Value.ref (hp.objs.size + 1)] I2.kIn hl) r2 hq) fun r s' hq' => ?_))
  cases r with
  | error er => exact hq'.elim
  | ok fl =>
    cases fl with
    | ret u =>
      obtain ⟨v, H2, os2, bare2, un2, hok2, rv, ev, ea, q2⟩ := hq'
      subst ev
      obtain ⟨h2, g2, d2, t2, os'⟩ := s'
      exact ⟨rv, mk_endN (raises_own T.exC T.tyC) I hsz kk un2 hok2 os2 bare2 ea q2⟩
    | next => exact False.elim hq'
    | brk => exact False.elim hq'
    | cont => exact False.elim hq'
def tRaise0 (C : Addr) (W : WX) : TS := fun _ σ H => W (.ref C) none σ H
def R1 (C : Addr) (f : Str) (vs : List V) (H1 : Hp) (Q : XK) : Prop := vs.length ≤ 1000 ∧ ∀ a, H1 a = none → sp_exc1 C f (.ref a :: (vs ++ [])) (upd H1 a (exo a C none))
  (fun v H2 => v = .non ∧ ∃ (d : Addr) (fs : List (Str × V)), H2 a = some (exo a C (some d)) ∧ H2 d = some (exd d fs) ∧ H1 d = none ∧ Q (.ref C) (some d) (upd (del H2 a) d (.xd fs))) (fun _ _ _ => False)
def tRaise1 (C : Addr) (f : Str) (W : WX) (ta : TA) : TS := fun _ σ H => ta σ H fun vs H1 => R1 C f vs H1 fun cls d H' => W cls d σ H'
theorem ps_raise0 (hc : X.calm = true) (tk : Takes X W) (T : OexC X.K C) (iC : PySem.W.findIn X.K (.ref C) "__init__" = some (some (.ref fI))) (tI : PySem.W.typeIn X.K (.ref fI) = some (.type "function"))
    (F1 : FnOk X.prog X.w X.K X.mg X.base CX0 k fI fd ps (sp_exc0 C)) (hr : Room (k + 1) X.A) (hb : Binds X.K fd ps []) (hg : Gl X x) (hm : X.mg x = some (.ref C)) (hdb : (x == ("__debug__" : Str)) = false := by decide) :
    PS X (.Raise (some (.Call (.Name x p) [] [] pos)) none pos2) (tRaise0 C W) := ps_raise hc tk (pmk_bad0 T iC tI F1 hr hb hg hm hdb)
theorem ps_raise1 (hc : X.calm = true) (tk : Takes X W) (T : OexC X.K C) (iC : PySem.W.findIn X.K (.ref C) "__init__" = some (some (.ref fI))) (tI : PySem.W.typeIn X.K (.ref fI) = some (.type "function"))
    (F1 : FnOk X.prog X.w X.K X.mg X.base CX0 k fI fd ps (sp_exc1 C f)) (hr : Room (k + 1) X.A) (hb : Binds X.K fd ps []) (hg : Gl X x) (hm : X.mg x = some (.ref C)) (ha : PA X [e] ta) (hdb : (x == ("__debug__" : Str)) = false := by decide)
    (he : starEach (e :: []) X.env = (false, eval e X.env) :: starEach [] X.env := by rfl) (hpl : (backTo pos (starEach [] X.env)).any (·.1) = false := by rfl) :
    PS X (.Raise (some (.Call (.Name x p) [e] [] pos)) none pos2) (tRaise1 C f W ta) := ps_raise hc tk (pmk_oex T iC tI F1 hr hb .nil (fun _ _ _ _ _ _ _ z => z.elim) hg hm ha hdb he hpl)
theorem a_raise0 {D : Ends} {σ : L2.St} {H : Hp} (h : W (.ref C) none σ H) : tRaise0 C W D σ H := h
theorem a_raise1 {D : Ends} {σ : L2.St} {H : Hp} (h : ta σ H fun vs H1 => R1 C f vs H1 fun cls d H' => W cls d σ H') : tRaise1 C f W ta D σ H := h
theorem a_r1 {v : V} {H1 : Hp} {Q : XK} (h : ∀ d, H1 d = none → Q (.ref C) (some d) (upd H1 d (.xd [(f, v)]))) : R1 C f [v] H1 Q := by
  refine ⟨(by show 1 ≤ 1000; decide), fun a ha => ⟨a, v, rfl, upd_same, fun dx hdx ne => ⟨rfl, dx, [(f, v)], upd_same, ?_, ?_, ?_⟩⟩⟩
  · rw [upd_ne ne, upd_same]
  · rw [upd_ne ne] at hdx; exact hdx
  · have hd1 : H1 dx = none := by rw [upd_ne ne] at hdx; exact hdx
    have e : upd (del (upd (upd (upd H1 a (exo a C none)) dx (exd dx [(f, v)])) a (exo a C (some dx))) a) dx (.xd [(f, v)]) = upd H1 dx (.xd [(f, v)]) := by
      funext b
      by_cases z : b = dx
      · rw [z, upd_same, upd_same]
      · rw [upd_ne z, upd_ne z]
        by_cases y : b = a
        · rw [y, del_same, ha]
        · rw [del_ne y, upd_ne y, upd_ne z, upd_ne y]
    rw [e]
    exact h dx hd1
end
/-! ### readings of the __init__s -/
section
variable {K : Frag} {ta : TA} {to te : TE} {f : Str} {σ : L2.St} {H : Hp} {Q : VK} {D : Ends}
theorem a_vei (h : ta σ H fun vs H1 => ∃ (a C : Addr) (ws : List V), vs = .ref a :: ws ∧ ws.length ≤ 1000 ∧ OexC K C ∧ H1 a = some (exo a C none) ∧ Q .non H1) : tVeI K ta σ H Q := h
def rOst (K : Frag) (f : Str) (y x : V) (H2 : Hp) (P : Hp → Prop) : Prop := ∃ a C : Addr, x = .ref a ∧ OexC K C ∧ PySem.W.findIn K (.ref C) f = some none ∧
  ((H2 a = some (exo a C none) ∧ ∀ dx, H2 dx = none → dx ≠ a → P (upd (upd H2 dx (exd dx [(f, y)])) a (exo a C (some dx)))) ∨
    ∃ (dx : Addr) (fs : List (Str × V)), H2 a = some (exo a C (some dx)) ∧ H2 dx = some (exd dx fs) ∧ fs.length ≤ 900 ∧ P (upd H2 dx (exd dx ((f, y) :: fs))))
theorem a_ost (h : te σ H fun y H1 => to σ H1 fun x H2 => rOst K f y x H2 fun H3 => D.nx σ H3) : tOst K f to te D σ H := h
end
/-! ### try: several clauses, with or without a name -/
def asTs (i : Nat) (ts : Addr → Value → Option Addr → TS) : Addr → Value → Option Addr → TS := fun a cls d D σ H =>
  ts a cls d { nx := fun σ' H' => D.nx (σ'.set i none) H', rt := D.rt, bk := fun σ' H' => D.bk (σ'.set i none) H', ct := fun σ' H' => D.ct (σ'.set i none) H' } (σ.set i (some (.ref a))) H
def wEx (K : Frag) (Wout : WX) (D : Ends) : List (Value × (Addr → Value → Option Addr → TS)) → WX
  | [] => Wout
  | (c, ts) :: r => fun cls d σ H => ∃ b, PySem.W.exmOne K cls c = some b ∧ (b = true → ∀ a, H a = none → ts a cls d D σ H) ∧ (b = false → wEx K Wout D r cls d σ H)
inductive HdsX (X : Cx) : List ExceptHandler → List (Value × (Addr → Value → Option Addr → TS)) → Prop
  | nil : HdsX X [] []
  | cons {x : Str} {c : Value} {ts : Addr → Value → Option Addr → TS} {b₀ : Stmt} {suite : List Stmt} {np pos' : Pos} {hds : List ExceptHandler} {l : List (Value × (Addr → Value → Option Addr → TS))} (hc : Names X x c)
      (hsu : ∀ (a : Addr) (oe : Obj) (cls : Value) (d : Option Addr) (pn : List (Addr × Obj)), Zc cls d oe → (∃ vs, oe.data = .fields vs) → PSs (X.suite a ((a, oe) :: pn)) (b₀ :: suite) (ts a cls d)) (r : HdsX X hds l) :
      HdsX X (.ExceptHandler (some (.Name x np)) none (b₀ :: suite) pos' :: hds) ((c, ts) :: l)
  | as {x n : Str} {c : Value} {i : Nat} {ts : Addr → Value → Option Addr → TS} {b₀ : Stmt} {suite : List Stmt} {np pos' : Pos} {hds : List ExceptHandler} {l : List (Value × (Addr → Value → Option Addr → TS))} (hi : X.N[i]? = some n) (hln : X.env.kindOf n = some .local) (hc : Names X x c)
      (hsu : ∀ (a : Addr) (oe : Obj) (cls : Value) (d : Option Addr) (pn : List (Addr × Obj)), Zc cls d oe → (∃ vs, oe.data = .fields vs) → PSs (X.suite a ((a, oe) :: pn)) (b₀ :: suite) (ts a cls d)) (r : HdsX X hds l) :
      HdsX X (.ExceptHandler (some (.Name x np)) (some n) (b₀ :: suite) pos' :: hds) ((c, asTs i ts) :: l)
def tTry (K : Frag) (Wout : WX) (l : List (Value × (Addr → Value → Option Addr → TS))) (tb : WX → TS) : TS := fun D σ H => tb (wEx K Wout D l) D σ H
section
variable {X : Cx} {body : List Stmt} {h₀ : ExceptHandler} {hds : List ExceptHandler} {l : List (Value × (Addr → Value → Option Addr → TS))} {pos : Pos} {tb : WX → TS} {Wout : WX}
theorem ps_try_mix (hs : X.stack = X.env :: X.outer) (hf : X.env.frame = some X.env.locals) (hN : X.N.Nodup) (tk : Takes X Wout)
    (hb : ∀ (W : WX) (pn : List (Addr × Obj)) (xe : Value → Shared → Prop), Takes (X.tr pn xe) W → PassesOwn (model X.prog X.w) X.A X.env xe → PSs (X.tr pn xe) body (tb W))
    (hh : HdsX X (h₀ :: hds) l) : PS X (.Try body (h₀ :: hds) [] [] pos) (tTry X.K Wout l tb) := by
  refine ⟨fun pins s σ H D I h => ?_⟩
  have ok := I.ok
  have hfr : X.A.frames = some (X.env :: X.outer) := by rw [ok.frames, hs]
  refine wpAny_Try_except ?_
  refine wpAny_mono ((hb (wEx X.K Wout D l) (X.pn ++ pins) (fun e s₁ => wpAny (model X.prog X.w) X.A (noteFrame e X.env) (fun _ s₂ => wpAny (model X.prog X.w) X.A (setFlight e none) (fun _ s₃ =>
    wpAny (model X.prog X.w) X.A (handleBy e X.env (h₀ :: hds)) (SP X pins D) X.xe s₃) X.xe s₂) X.xe s₁) (fun u s' xx => ?_) PassesOwn.looking).run [] s σ H D (I.toTry _) h) (fun f s1 hsp => ?_) (fun e s1 he => he)
  · obtain ⟨a, B, sI, pins', σ', H', cls, d, rfl, J', nb, up, sky, na, os, ag, w⟩ := xx
    have J : Inv X pins σ' H' sI := J'.ofTry ok
    have sky' : Sky B (X.env :: X.outer) a (Zc cls d) X.env.locals s'.heap := by rw [← hs]; exact sky
    show wpAny (model X.prog X.w) X.A (noteFrame (.ref a) X.env) _ _ _
    refine Sky.land Zc.steady hfr hf sky' fun h3 fl3 up3 => ?_
    have J3 : Inv X pins σ' H' { s' with heap := h3 } := J.landed nb fl3.1 (up.trans up3) os ag
    obtain ⟨oe3, vs3, he3, hz3, hd3⟩ := fl3.there
    have notFr : ∀ {h : Heap} {o : Obj} {vs : Array Value}, h.FunFrames B (X.env :: X.outer) → h.get? a = some o → o.data = .fields vs → a ∉ frs (X.env :: X.outer) := fun {h o vs} ff e dd hm => by
      obtain ⟨_, o', e', hnf⟩ := ff.mem hm
      rw [e] at e'; cases e'
      exact hnf _ dd
    have nfr := notFr fl3.2.2.1 he3 hd3
    have nL : a ≠ X.env.locals := fun z => nfr (List.mem_filterMap.mpr ⟨X.env, List.mem_cons_self, by rw [hf, z]⟩)
    have nF : a ∉ X.fs := fun hm => by
      obtain ⟨e, he, q⟩ := List.mem_filterMap.mp hm
      exact nfr (List.mem_filterMap.mpr ⟨e, List.mem_cons_of_mem _ he, q⟩)
    have S3 := J3.suite he3 hd3 na nL nF
    have LT : PySem.W.Looks (model X.prog X.w) h3 (typeOf (.ref a)) cls := fun A Q E s k q => wpAny_typeOf_ref (k _ _ he3) (by rw [hz3.1]; exact q)
    have test : ∀ {x : Str} {c : Value} {np : Pos} {Q : Value → Shared → Prop} {E : Value → Shared → Prop}, Names X x c → Q c { s' with heap := h3 } → wpAny (model X.prog X.w) (X.A.mark (some (.ref a))) (eval (.Name x np) X.env) Q E { s' with heap := h3 } := fun {x c np Q E} hc q => by
      obtain ⟨hg, hdbg, hm | ⟨hm, hv, hnn⟩⟩ := hc
      · exact ld_glob (X := X.suite a ((a, oe3) :: (X.pn ++ pins))) S3 hg hm q hdbg
      · exact ld_blt (X := X.suite a ((a, oe3) :: (X.pn ++ pins))) S3 hg hm hv q hnn hdbg
    have go : ∀ {hds' : List ExceptHandler} {l' : List (Value × (Addr → Value → Option Addr → TS))}, HdsX X hds' l' → wEx X.K Wout D l' cls d σ' H' →
        wpAny (model X.prog X.w) X.A (handleBy (.ref a) X.env hds') (SP X pins D) X.xe { s' with heap := h3 } := by
      intro hds' l' hk
      induction hk with
      | nil =>
        intro w
        refine wpAny_handleBy_nil ?_
        obtain ⟨k1, k2, k3, oe, vs, T, oT, ts', he, hz, hd, h1, hr⟩ := id fl3
        unfold PySem.passOn
        refine wpAny_bind (wpAny_field he hd h1 ?_)
        rw [if_neg (show ¬ ((Value.ref T == Value.none) = true) from by simp)]
        have fin : wpAny (model X.prog X.w) X.A (setFlight (.ref a) X.env.frame) (fun _ s4 => wpAny (model X.prog X.w) X.A (throw (.ref a) : Sem Flow) (SP X pins D) X.xe s4) X.xe { s' with heap := h3 } := by
          rw [hf]
          refine HandSPX.setFlight_upZ fl3 fun h4 hh4 up4 => wpAny_throw (tk _ _ ?_)
          exact ⟨a, B, sI, pins, σ', H', cls, d, rfl, J, nb, (up.trans up3).trans up4, .inr (.inr (by rw [hs]; exact hh4)), na, os, ag, w⟩
        first
          | exact wpAny_bind (wpAny_pure (wpAny_bind fin))
          | exact wpAny_bind fin
      | @cons x c ts b₀ suite np pos' hds2 l2 hc hsu r ih =>
        intro w
        obtain ⟨b, hb1, hyes, hno⟩ := w
        refine wpAny_handleBy_cons (codeAny_handlers_test ?_) (by intro q; cases q)
        have LM := PySem.W.exm_one (M := model X.prog X.w) (J3.kIn) LT hb1
        refine test hc (LM.here ?_)
        cases b with
        | true =>
          refine codeAny_handlers_suite ?_
          refine HandSPX.lands_againZ fl3 fun h4 fl4 up4 => ?_
          have J4 : Inv X pins σ' H' { s' with heap := h4 } := J.landed nb fl4.1 ((up.trans up3).trans up4) os ag
          obtain ⟨oe4, vs4, he4, hz4, hd4⟩ := fl4.there
          have S4 := J4.suite he4 hd4 na nL nF
          refine wpAny_mono ((hsu a oe4 cls d (X.pn ++ pins) hz4 ⟨_, hd4⟩).run [] _ _ H' _ S4 (hyes rfl a na)) (fun f s6 hsp => ?_) (fun _ _ z => False.elim z)
          cases f with
          | next =>
            obtain ⟨σ6, H6, S6, q6⟩ := hsp
            exact ⟨_, _, S6.unsuite ok, q6⟩
          | brk =>
            obtain ⟨σ6, H6, S6, q6⟩ := hsp
            exact ⟨_, _, S6.unsuite ok, q6⟩
          | cont =>
            obtain ⟨σ6, H6, S6, q6⟩ := hsp
            exact ⟨_, _, S6.unsuite ok, q6⟩
          | ret u =>
            obtain ⟨v6, σ6, H6, S6, r6, q6⟩ := hsp
            exact ⟨_, _, _, S6.unsuite ok, r6, q6⟩
        | false =>
          show wpAny _ X.A (handleBy (.ref a) X.env hds2) _ _ _
          exact ih (hno rfl)
      | @as x n c i ts b₀ suite np pos' hds2 l2 hi hln hc hsu r ih =>
        intro w
        obtain ⟨b, hb1, hyes, hno⟩ := w
        have hloc : Loc X.env.scope n := .inl hln
        refine wpAny_handleBy_cons (codeAny_handlers_test ?_) (by intro q; cases q)
        have LM := PySem.W.exm_one (M := model X.prog X.w) (J3.kIn) LT hb1
        refine test hc (LM.here ?_)
        cases b with
        | true =>
          refine codeAny_handlers_suite_as ?_
          refine HandSPX.lands_againZ fl3 fun h4 fl4 up4 => ?_
          have J4 : Inv X pins σ' H' { s' with heap := h4 } := J.landed nb fl4.1 ((up.trans up3).trans up4) os ag
          obtain ⟨oe4, vs4, he4, hz4, hd4⟩ := fl4.there
          have S4 := J4.suite he4 hd4 na nL nF
          refine store_ok (X := X.suite a ((a, oe4) :: (X.pn ++ pins))) (v := .ref a) S4 hN hi hloc rfl (fun s5 S5 => ?_) (.inr hln)
          refine wpAny_mono ((hsu a oe4 cls d (X.pn ++ pins) hz4 ⟨_, hd4⟩).run [] s5 _ H' _ S5 (hyes rfl a na)) (fun f s6 hsp => ?_) (fun _ _ z => False.elim z)
          have end_ : ∀ {σ6 : L2.St} {H6 : Hp} {Q : Shared → Prop}, Inv (X.suite a ((a, oe4) :: (X.pn ++ pins))) [] σ6 H6 s6 → (∀ s7, Inv X pins (σ6.set i none) H6 s7 → Q s7) →
              wpAny (model X.prog X.w) X.A (do bindName X.env n .none; unbindBehindTheSuite X.env n pos') (fun _ s7 => Q s7) X.xe s6 := fun {σ6 H6 Q} S6 hq => gone_ok (S6.unsuite ok) hN hi hln hq
          cases f with
          | next =>
            obtain ⟨σ6, H6, S6, q6⟩ := hsp
            exact end_ S6 fun s7 J7 => ⟨_, _, J7, q6⟩
          | brk =>
            obtain ⟨σ6, H6, S6, q6⟩ := hsp
            exact end_ S6 fun s7 J7 => ⟨_, _, J7, q6⟩
          | cont =>
            obtain ⟨σ6, H6, S6, q6⟩ := hsp
            exact end_ S6 fun s7 J7 => ⟨_, _, J7, q6⟩
          | ret u =>
            obtain ⟨v6, σ6, H6, S6, r6, q6⟩ := hsp
            exact end_ S6 fun s7 J7 => ⟨_, _, _, J7, r6, q6⟩
        | false =>
          show wpAny _ X.A (handleBy (.ref a) X.env hds2) _ _ _
          exact ih (hno rfl)
    exact go hh w
  · cases f with
    | next =>
      obtain ⟨σ', H', J', q⟩ := hsp
      exact wpAny_execs_nil ⟨σ', H', J'.ofTry ok, q⟩
    | brk =>
      obtain ⟨σ', H', J', q⟩ := hsp
      exact ⟨σ', H', J'.ofTry ok, q⟩
    | cont =>
      obtain ⟨σ', H', J', q⟩ := hsp
      exact ⟨σ', H', J'.ofTry ok, q⟩
    | ret u =>
      obtain ⟨v, σ', H', J', r, q⟩ := hsp
      exact ⟨v, σ', H', J'.ofTry ok, r, q⟩
end
section
variable {K : Frag} {Wout : WX} {D : Ends} {l r : List (Value × (Addr → Value → Option Addr → TS))} {tb : WX → TS} {σ : L2.St} {H : Hp} {cls c : Value} {d : Option Addr} {ts : Addr → Value → Option Addr → TS}
theorem a_try (h : tb (wEx K Wout D l) D σ H) : tTry K Wout l tb D σ H := h
theorem a_exNo (e : PySem.W.exmOne K cls c = some false) (h : wEx K Wout D r cls d σ H) : wEx K Wout D ((c, ts) :: r) cls d σ H := ⟨false, e, fun z => Bool.noConfusion z, fun _ => h⟩
theorem a_exYes (e : PySem.W.exmOne K cls c = some true) (h : ∀ a, H a = none → ts a cls d D σ H) : wEx K Wout D ((c, ts) :: r) cls d σ H := ⟨true, e, fun _ => h, fun z => Bool.noConfusion z⟩
theorem a_as {a : Addr} {i : Nat} (h : ts a cls d { nx := fun σ' H' => D.nx (σ'.set i none) H', rt := D.rt, bk := fun σ' H' => D.bk (σ'.set i none) H', ct := fun σ' H' => D.ct (σ'.set i none) H' } (σ.set i (some (.ref a))) H) : asTs i ts a cls d D σ H := h
theorem a_xf {te : TE} {Q : VK} {a C : Addr} {f : Str} (h : te σ H fun x H1 => x = .ref a ∧ cls = .ref C ∧ ∃ (dd : Addr) (fs : List (Str × V)) (v : V), d = some dd ∧ H1 dd = some (.xd fs) ∧ fs.lookup f = some v ∧ Q v H1) : tXf a cls d C f te σ H Q := h
end
/-! ### calls of a value; calls within a try's body -/
section
variable {X : Cx} {CX : CXT} {k : Nat} {f C : Addr} {fd : FuncData} {ps : List Str} {sp : Sp} {dvs : List V} {ds : List Value} {E : L2.St → XK} {x m : Str} {p pos : Pos} {e fe : Expr} {es : List Expr} {ta : TE} {t : TA}
/-- the def that stands at f, with what it promises -/
structure HeldX (X : Cx) (CX : CXT) (k : Nat) (f : Addr) (sp : Sp) : Prop where
  ex : ∃ (fd : FuncData) (ps : List Str), FnOk X.prog X.w X.K X.mg X.base CX k f fd ps sp ∧ PySem.W.keepIn X.K (.ref f) = true ∧ Binds X.K fd ps []
theorem heldX (F : FnOk X.prog X.w X.K X.mg X.base CX k f fd ps sp) (hk : PySem.W.keepIn X.K (.ref f) = true) (hb : Binds X.K fd ps []) : HeldX X CX k f sp := ⟨fd, ps, F, hk, hb⟩
theorem HeldX.mono {j : Nat} (h : HeldX X CX j f sp) (jk : j ≤ k) : HeldX X CX k f sp := by
  obtain ⟨fd, ps, F, hk, hb⟩ := h.ex
  exact ⟨fd, ps, F.mono jk, hk, hb⟩
theorem held_nil : ∀ q ∈ ([] : List (Addr × Sp)), HeldX X CX k q.1 q.2 := fun _ h => by simp at h
theorem held_cons {S : List (Addr × Sp)} (h : HeldX X CX k f sp) (t : ∀ q ∈ S, HeldX X CX k q.1 q.2) : ∀ q ∈ (f, sp) :: S, HeldX X CX k q.1 q.2 := fun q hq => by
  rcases List.mem_cons.mp hq with rfl | hq
  · exact h
  · exact t q hq
def tCallV (S : List (Addr × Sp)) (E : L2.St → XK) (tf : TE) (t : TA) : TE := fun σ H Q => tf σ H fun v H1 => ∃ f sp, v = .ref f ∧ (f, sp) ∈ S ∧ t σ H1 fun vs H2 => sp vs H2 Q (E σ)
theorem pe_callV {S : List (Addr × Sp)} {tf : TE} (A : ∀ q ∈ S, HeldX X CX k q.1 q.2) (hr : Room k X.A) (hx : ∀ σ, PassesAt CX X σ (E σ)) (hf : PE X fe tf) (ha : PA X (e :: es) t)
    (hc : eval (.Call fe (e :: es) [] pos) X.env = (do callWith pos (← eval fe X.env) [] (backTo pos (starEach (e :: es) X.env)) (backToKw pos (keywordEach [] X.env))) := by rfl)
    (he : starEach (e :: es) X.env = (false, eval e X.env) :: starEach es X.env := by rfl) (hpl : (backTo pos (starEach es X.env)).any (·.1) = false := by rfl) :
    PE X (.Call fe (e :: es) [] pos) (tCallV S E tf t) := by
  refine ⟨fun pins s σ H Q I h => ?_⟩
  rw [hc]
  refine wpAny_bind (thn (hf.run pins s σ H _ I h) fun u s1 ⟨v, H1, I1, r1, f, sp, ev, hS, q1⟩ => ?_)
  subst ev
  obtain rfl : u = Value.ref f := r1
  obtain ⟨fd, ps, F, hk, hb⟩ := (A _ hS).ex
  refine PySem.W.callWith_K (h₀ := X.base) I.ok.mod.kin hk (thn (ha.run pos pins s1 σ _ _ I1 q1) fun us s2 ⟨vs, H2, I2, r, q⟩ => ⟨I2.kIn, ?_⟩) he hpl
  exact run_fnS F hr hb (hx σ) I2 r q
theorem a_meth {C : Addr} {dvs : List V} {E : XK} {σ : L2.St} {H : Hp} {Q : VK} (h : ta σ H fun x H1 => ∃ a dx fs, x = .ref a ∧ H1 a = some (.ins C dx fs) ∧ fs.lookup m = none ∧ t σ H1 fun vs H2 => sp (x :: (vs ++ dvs)) H2 Q E) : tMeth C m sp dvs E ta t σ H Q := h
theorem a_callV {S : List (Addr × Sp)} {tf : TE} {σ : L2.St} {H : Hp} {Q : VK} (h : tf σ H fun v H1 => ∃ f sp, v = .ref f ∧ (f, sp) ∈ S ∧ t σ H1 fun vs H2 => sp vs H2 Q (E σ)) : tCallV S E tf t σ H Q := h
theorem a_callS {σ : L2.St} {H : Hp} {Q : VK} (h : t σ H fun vs H1 => sp vs H1 Q (E σ)) : tCallS sp E t σ H Q := h
/-- an own instance made within a try's body -/
def tMakeS (C : Addr) (sp : Sp) (dvs : List V) (E : L2.St → XK) (t : TA) : TE := fun σ H Q => t σ H fun vs H1 => ∀ x dx, H1 x = none → H1 dx = none → dx ≠ x →
  sp (.ref x :: (vs ++ dvs)) (upd (upd H1 dx (.own x)) x (.ins C dx [])) (fun v H2 => v = .non ∧ Q (.ref x) H2) (E σ)
theorem run_makeS {pins : List (Addr × Obj)} {σ : L2.St} {H : Hp} {s : Shared} {Q : VK} {us : List Value} {vs : List V} (M : Mk X.K C f) (F : FnOk X.prog X.w X.K X.mg X.base CX k f fd ps sp) (hr : Room (k + 1) X.A) (hb : Binds X.K fd ps ds) (hd : Vals dvs ds)
    (hx : PassesAt CX X σ (E σ)) (I : Inv X pins σ H s) (r : Vals vs us)
    (h : ∀ x dx, H x = none → H dx = none → dx ≠ x → sp (.ref x :: (vs ++ dvs)) (upd (upd H dx (.own x)) x (.ins C dx [])) (fun v H2 => v = .non ∧ Q (.ref x) H2) (E σ)) :
    wpAny (model X.prog X.w) X.A (call (.ref C) us) (EP X pins σ Q) X.xe s := by
  have hq := h (s.heap.objs.size + 1) s.heap.objs.size (I.hok.fresh (Nat.le_succ _)) (I.hok.fresh (Nat.le_refl _)) (Nat.ne_of_lt (Nat.lt_succ_self _))
  have I2 := Inv.made (C := C) I
  have r2 : Vals (V.ref (s.heap.objs.size + 1) :: (vs ++ dvs)) (Value.ref (s.heap.objs.size + 1) :: (us ++ ds)) := .cons rfl (r.append hd)
  have hl : (Value.ref (s.heap.objs.size + 1) :: us ++ ds).length = ps.length := by
    have e := r2.length
    rw [F.len _ _ _ _ hq] at e
    exact e.symm
  refine wpAny_call (make_map (f := f) I.kIn M.makes M.init (beq_iff_eq.mp M.fn) (codeAny_mono (F.run _ X.stack _ _ ⟨Value.ref (s.heap.objs.size + 1) :: us, []⟩ (Value.ref (s.heap.objs.size + 1) :: (us ++ ds)) _ _ (E σ) (hr.make C us [])
    (I2.env0.make C us []) (hb _ (Value.ref (s.heap.objs.size + 1) :: us) I2.kIn hl) r2 hq) fun r s' hq' => ?_))
  cases r with
  | error e => exact hx pins _ _ e s' I2 hq'
  | ok fl =>
    cases fl with
    | ret u =>
      obtain ⟨v, H', I3, rv, ev, q3⟩ := I2.after hq'
      subst ev
      exact ⟨rv, ⟨V.ref (s.heap.objs.size + 1), H', I3, rfl, q3⟩⟩
    | next => exact False.elim hq'
    | brk => exact False.elim hq'
    | cont => exact False.elim hq'
theorem pe_makeS (M : Mk X.K C f) (F : FnOk X.prog X.w X.K X.mg X.base CX k f fd ps sp) (hr : Room (k + 1) X.A) (hg : Gl X x) (hm : X.mg x = some (.ref C)) (hb : Binds X.K fd ps ds) (hd : Vals dvs ds) (hx : ∀ σ, PassesAt CX X σ (E σ))
    (ha : PA X (e :: es) t) (hdb : (x == ("__debug__" : Str)) = false := by decide) (he : starEach (e :: es) X.env = (false, eval e X.env) :: starEach es X.env := by rfl) (hpl : (backTo pos (starEach es X.env)).any (·.1) = false := by rfl) :
    PE X (.Call (.Name x p) (e :: es) [] pos) (tMakeS C sp dvs E t) := by
  refine ⟨fun pins s σ H Q I h => ?_⟩
  refine wpAny_Call_Name_kw (ld_glob I hg hm ?_ hdb)
  refine PySem.W.callWith_K (h₀ := X.base) I.ok.mod.kin M.kp (thn (ha.run pos pins s σ H _ I h) fun us s1 ⟨vs, H1, I1, r, q⟩ => ⟨I1.kIn, ?_⟩) he hpl
  exact run_makeS M F hr hb hd (hx σ) I1 r q
theorem a_makeS {σ : L2.St} {H : Hp} {Q : VK} (h : t σ H fun vs H1 => ∀ x dx, H1 x = none → H1 dx = none → dx ≠ x → sp (.ref x :: (vs ++ dvs)) (upd (upd H1 dx (.own x)) x (.ins C dx [])) (fun v H2 => v = .non ∧ Q (.ref x) H2) (E σ)) : tMakeS C sp dvs E t σ H Q := h
end
end R

/-! ## values of any kind -/
namespace R
open PySem PySem.Spec PyProof.Rows L2
open PySem.W (Frag)
inductive Odd (K : Frag) (H : Hp) : V → Prop
  | non : Odd K H .non
  | bl (b : Bool) : Odd K H (.bl b)
  | str (z : Str) : Odd K H (.str z)
  | lst {a : Addr} {xs : List V} (h : H a = some (.lst xs)) : Odd K H (.ref a)
  | tup {a : Addr} {xs : List V} (h : H a = some (.tup xs)) : Odd K H (.ref a)
  | dK {a : Addr} {kvs : List (Key × V)} (h : H a = some (.dK kvs)) : Odd K H (.ref a)
theorem Odd.same {K : Frag} {B H : Hp} {v : V} (s : Same B H) (h : Odd K B v) : Odd K H v := by
  cases h with
  | non => exact .non
  | bl b => exact .bl b
  | str z => exact .str z
  | lst h => exact .lst (s _ _ h)
  | tup h => exact .tup (s _ _ h)
  | dK h => exact .dK (s _ _ h)
/-- no int of the stretch -/
def OutR (K : Frag) (H : Hp) (v : V) (lo hi : Int) : Prop := Odd K H v ∨ ∃ i, v = .int i ∧ ¬ (lo ≤ i ∧ i ≤ hi)
theorem OutR.same {K : Frag} {B H : Hp} {v : V} {lo hi : Int} (s : Same B H) (h : OutR K B v lo hi) : OutR K H v lo hi := h.imp (·.same s) id
theorem OutR.int {K : Frag} {H : Hp} {i lo hi : Int} (h : i < lo ∨ hi < i) : OutR K H (.int i) lo hi := .inr ⟨i, rfl, by omega⟩
section
variable {K : Frag} {H : Hp} {v : V} {Q : VK}
theorem a_isiO (h : Odd K H v) (hb : ∀ b, v ≠ .bl b) (q : Q (.bl false) H) : rIsi K [v, .ty "int"] H Q := by
  cases h with
  | non => exact ⟨_, _, .type "NoneType", .type "int", false, rfl, .ty _, .base .non, kit_ty (by decide +kernel), q⟩
  | bl b => exact absurd rfl (hb b)
  | str z => exact ⟨_, _, .type "str", .type "int", false, rfl, .ty _, .base (.str z), kit_ty (by decide +kernel), q⟩
  | lst h => exact ⟨_, _, .type "list", .type "int", false, rfl, .ty _, .base (.lst h), kit_ty (by decide +kernel), q⟩
  | tup h => exact ⟨_, _, .type "tuple", .type "int", false, rfl, .ty _, .base (.tup h), kit_ty (by decide +kernel), q⟩
  | dK h => exact ⟨_, _, .type "dict", .type "int", false, rfl, .ty _, .base (.dK h), kit_ty (by decide +kernel), q⟩
theorem a_isiBI {b : Bool} (q : Q (.bl true) H) : rIsi K [.bl b, .ty "int"] H Q := ⟨_, _, .type "bool", .type "int", true, rfl, .ty _, .base (.bl b), kit_ty (by decide +kernel), q⟩
theorem a_isiBB {b : Bool} (q : Q (.bl true) H) : rIsi K [.bl b, .ty "bool"] H Q := ⟨_, _, .type "bool", .type "bool", true, rfl, .ty _, .base (.bl b), kit_ty (by decide +kernel), q⟩
end
end R
namespace R
open PySem PySem.Spec PyProof.Rows L2
open PySem.W (Frag)
/-- a flat value that is no int of the stretch, as data too -/
structure BadV (K : Frag) (lo hi : Int) (v : V) : Prop where
  out : ∀ H, OutR K H v lo hi
  flat : ∃ d : PyData, d.canLay0 = true ∧ d.depth ≤ 1 ∧ ∀ H, Dp K H v d
section
variable {K : Frag} {lo hi : Int} {v : V} {H : Hp} {Q : VK} {p q : Addr}
theorem BadV.non : BadV K lo hi .non := ⟨fun _ => .inl .non, .none, rfl, Nat.zero_le _, fun _ => .non⟩
theorem BadV.bl {b : Bool} : BadV K lo hi (.bl b) := ⟨fun _ => .inl (.bl b), .bool b, rfl, Nat.zero_le _, fun _ => .bl b⟩
theorem BadV.str {z : Str} (h : (PyData.str z).canLay0 = true) : BadV K lo hi (.str z) := ⟨fun _ => .inl (.str z), .str z, h, Nat.zero_le _, fun _ => .str z⟩
theorem BadV.int {i : Int} (h : i < lo ∨ hi < i) : BadV K lo hi (.int i) := ⟨fun _ => .int h, .int i, rfl, Nat.zero_le _, fun _ => .int i⟩
/-- [v] != [v] -/
theorem a_neOne (hv : ∃ d : PyData, d.canLay0 = true ∧ d.depth ≤ 1 ∧ ∀ H, Dp K H v d) (hp : SqL K H p [v]) (hq : SqL K H q [v]) (h : Q (.bl false) H) : rNeD K (.ref p) (.ref q) H Q := by
  obtain ⟨d, d1, d2, d3⟩ := hv
  refine a_neD (d := .list [d]) (.lst hp (.cons (d3 H) .nil)) (.lst hq (.cons (d3 H) .nil)) ?_ ?_ h
  · show (d.canLay0 && true) = true
    rw [d1]; rfl
  · show max d.depth 0 + 1 ≤ 64
    omega
theorem a_neS1 {z : Str} (h : Q (.bl false) H) : rNe (.str z) (.str z) H Q := ⟨rfl, by rw [decide_eq_true rfl]; exact h⟩
end
end R
namespace R
open PySem PySem.Spec PyProof.Rows L2
open PySem.W (Frag)
def isTy : Value → Bool
  | .type _ => true
  | _ => false
theorem kit_no {K : Frag} {C : Addr} {t : String} (hc : ((PySem.W.clsIn K C).isSome && PySem.W.typeIn K (.ref C) == some (.type "type")) = true) (hm : (PySem.fastBuiltinMro t).map (·.all isTy) = some true) : PySem.W.kitOne K (.type t) (.ref C) = some false := by
  obtain ⟨l, h1, h2⟩ := Option.map_eq_some_iff.mp hm
  have z : l.contains (Value.ref C) = false := by
    cases e : l.contains (Value.ref C) with
    | false => rfl
    | true =>
      have m : Value.ref C ∈ l := by simpa using e
      have y := List.all_eq_true.mp h2 _ m
      cases y
  show (if (Value.type t == Value.ref C) = true then some true else PySem.W.kitCls K (.type t) (.ref C)) = some false
  rw [if_neg (by intro y; rw [beq_iff_eq] at y; cases y)]
  show (if _ = true then (PySem.fastBuiltinMro t).map (·.contains (.ref C)) else none) = some false
  rw [if_pos hc, h1]
  show some (l.contains (Value.ref C)) = some false
  rw [z]
/-- no instance of an own class -/
def NoI (K : Frag) (H : Hp) (v : V) : Prop := Odd K H v ∨ ∃ i, v = .int i
theorem NoI.same {K : Frag} {B H : Hp} {v : V} (s : Same B H) (h : NoI K B v) : NoI K H v := h.imp (·.same s) id
theorem a_isiC {K : Frag} {H : Hp} {v : V} {Q : VK} {C : Addr} (hc : ((PySem.W.clsIn K C).isSome && PySem.W.typeIn K (.ref C) == some (.type "type")) = true) (h : NoI K H v) (q : Q (.bl false) H) : rIsi K [v, .ref C] H Q := by
  rcases h with h | ⟨i, rfl⟩
  · cases h with
    | non => exact ⟨_, _, .type "NoneType", .ref C, false, rfl, .own _, .base .non, kit_no hc (by decide +kernel), q⟩
    | bl b => exact ⟨_, _, .type "bool", .ref C, false, rfl, .own _, .base (.bl b), kit_no hc (by decide +kernel), q⟩
    | str z => exact ⟨_, _, .type "str", .ref C, false, rfl, .own _, .base (.str z), kit_no hc (by decide +kernel), q⟩
    | lst h => exact ⟨_, _, .type "list", .ref C, false, rfl, .own _, .base (.lst h), kit_no hc (by decide +kernel), q⟩
    | tup h => exact ⟨_, _, .type "tuple", .ref C, false, rfl, .own _, .base (.tup h), kit_no hc (by decide +kernel), q⟩
    | dK h => exact ⟨_, _, .type "dict", .ref C, false, rfl, .own _, .base (.dK h), kit_no hc (by decide +kernel), q⟩
  · exact ⟨_, _, .type "int", .ref C, false, rfl, .own _, .base (.int i), kit_no hc (by decide +kernel), q⟩
end R
namespace R
open PySem PySem.Spec PyProof.Rows L2
open PySem.W (Frag)
section
variable {K : Frag} {v : V} {H : Hp} {Q : VK} {p q : Addr}
/-- [v] == [v] -/
theorem a_eqOne (hv : ∃ d : PyData, d.canLay0 = true ∧ d.depth ≤ 1 ∧ ∀ H, Dp K H v d) (hp : SqL K H p [v]) (hq : SqL K H q [v]) (h : Q (.bl true) H) : rEqD K (.ref p) (.ref q) H Q := by
  obtain ⟨d, d1, d2, d3⟩ := hv
  refine a_eqD (d := .list [d]) (.lst hp (.cons (d3 H) .nil)) (.lst hq (.cons (d3 H) .nil)) ?_ ?_ h
  · show (d.canLay0 && true) = true
    rw [d1]; rfl
  · show max d.depth 0 + 1 ≤ 64
    omega
theorem a_eqS1 {z : Str} (h : Q (.bl true) H) : rEq (.str z) (.str z) H Q := ⟨rfl, by rw [decide_eq_true rfl]; exact h⟩
end
end R

/-! ## lists with the very same items; what a call lays goes into the base -/
namespace R
open PySem PySem.Spec PyProof.Rows L2
open PySem.W (Frag)
def SameIt (v : V) : Prop := flatB v = true ∨ ∃ a, v = .ref a
def rNeS (K : Frag) : R2 := fun x y H Q => ∃ a b xs, x = .ref a ∧ y = .ref b ∧ SqL K H a xs ∧ SqL K H b xs ∧ (∀ v ∈ xs, SameIt v) ∧ Q (.bl false) H
def rEqS (K : Frag) : R2 := fun x y H Q => ∃ a b xs, x = .ref a ∧ y = .ref b ∧ SqL K H a xs ∧ SqL K H b xs ∧ (∀ v ∈ xs, SameIt v) ∧ Q (.bl true) H
section
variable {X : Cx}
theorem sameIt_run {P : Program} {w : World} {A : Around} {s : Shared} : ∀ {xs : List V} {us ws : List Value}, (∀ v ∈ xs, SameIt v) → Vals xs us → Vals xs ws → ∀ j (h1 : j < us.length) (h2 : j < ws.length), SeqAt.EqAt A s us[j] ws[j] true := by
  intro xs us ws hf r1
  induction r1 generalizing ws with
  | nil =>
    intro _ j h1
    exact absurd h1 (Nat.not_lt_zero j)
  | cons a1 b1 ih =>
    intro r2 j h1 h2
    cases r2 with
    | cons a2 b2 =>
      cases j with
      | zero =>
        rcases hf _ List.mem_cons_self with f | ⟨a, rfl⟩
        · exact eqAt_same a1 a2 f
        · cases a1
          cases a2
          exact SeqAt.EqAt.same _
      | succ j => exact ih (fun v hv => hf v (List.mem_cons_of_mem _ hv)) b2 j (Nat.lt_of_succ_lt_succ h1) (Nat.lt_of_succ_lt_succ h2)
theorem op_neS (hu : X.A.units + 64 < cLine) : OpR X (compareOp .NotEq) (rNeS X.K) := by
  intro pins s σ H x y v u Q I rx ry h
  obtain ⟨a, b, xs, rfl, rfl, ha, hb, hf, q⟩ := h
  cases (show v = Value.ref a from rx)
  cases (show u = Value.ref b from ry)
  obtain ⟨us, r1, p1, _⟩ := I.list ha
  obtain ⟨ws, r2, p2, _⟩ := I.list hb
  have hsz : us.toArray.size = ws.toArray.size := by rw [List.size_toArray, List.size_toArray, ← r1.length, ← r2.length]
  show wpAny (model X.prog X.w) X.A (richCompare .NotEq (.ref a) (.ref b)) (EP X pins σ Q) X.xe s
  refine SeqAt.RcNeAt.lists (e := fun _ => true) p1.isList p2.isList hsz (by omega) (fun j h1 h2 => ?_) _ _ _ _ ?_
  · have k := sameIt_run (P := X.prog) (w := X.w) (A := X.A.in1) (s := s) hf r1 r2 j (by simpa using h1) (by simpa using h2)
    simpa using k
  · rw [show ((List.range us.toArray.size).all fun _ => true) = true from List.all_eq_true.mpr fun _ _ => rfl]
    exact ⟨.bl false, H, I, rfl, q⟩
theorem op_eqS (hu : X.A.units + 64 < cLine) : OpR X (compareOp .Eq) (rEqS X.K) := by
  intro pins s σ H x y v u Q I rx ry h
  obtain ⟨a, b, xs, rfl, rfl, ha, hb, hf, q⟩ := h
  cases (show v = Value.ref a from rx)
  cases (show u = Value.ref b from ry)
  obtain ⟨us, r1, p1, _⟩ := I.list ha
  obtain ⟨ws, r2, p2, _⟩ := I.list hb
  have hsz : us.toArray.size = ws.toArray.size := by rw [List.size_toArray, List.size_toArray, ← r1.length, ← r2.length]
  show wpAny (model X.prog X.w) X.A (richCompare .Eq (.ref a) (.ref b)) (EP X pins σ Q) X.xe s
  refine SeqAt.rcP_lists (e := fun _ => true) p1.isList p2.isList hsz (by omega) (fun j h1 h2 => ?_) _ _ ?_
  · have k := sameIt_run (P := X.prog) (w := X.w) (A := X.A.in1) (s := s) hf r1 r2 j (by simpa using h1) (by simpa using h2)
    exact (by simpa using k : SeqAt.EqAt X.A.in1 s us.toArray[j] ws.toArray[j] true).eqP
  · rw [show ((List.range us.toArray.size).all fun _ => true) = true from List.all_eq_true.mpr fun _ _ => rfl]
    exact ⟨.bl true, H, I, rfl, q⟩
end
section
variable {K : Frag} {v : V} {H : Hp} {Q : VK} {p q : Addr}
theorem a_neS1' (hv : SameIt v) (hp : SqL K H p [v]) (hq : SqL K H q [v]) (h : Q (.bl false) H) : rNeS K (.ref p) (.ref q) H Q := ⟨p, q, [v], rfl, rfl, hp, hq, fun x hx => by rw [List.mem_singleton.mp hx]; exact hv, h⟩
theorem a_eqS1' (hv : SameIt v) (hp : SqL K H p [v]) (hq : SqL K H q [v]) (h : Q (.bl true) H) : rEqS K (.ref p) (.ref q) H Q := ⟨p, q, [v], rfl, rfl, hp, hq, fun x hx => by rw [List.mem_singleton.mp hx]; exact hv, h⟩
theorem OutR.sameIt {lo hi : Int} (h : OutR K H v lo hi) : SameIt v := by
  rcases h with h | ⟨i, rfl, _⟩
  · cases h with
    | non => exact .inl rfl
    | bl b => exact .inl rfl
    | str z => exact .inl rfl
    | lst h => exact .inr ⟨_, rfl⟩
    | tup h => exact .inr ⟨_, rfl⟩
    | dK h => exact .inr ⟨_, rfl⟩
  · exact .inl rfl
theorem BadV.sameIt {lo hi : Int} (h : BadV K lo hi v) : SameIt v := (h.out (fun _ => none)).sameIt
end
/-- what was laid by a call that changed an owned thing alone goes into the base -/
theorem Own.base {B H H' : Hp} {Lw : List (Addr × HO)} {row : Addr} {o o' : HO} (O : Own B Lw H) (i : Nat) (hi : Lw[i]? = some (row, o)) (k : ∀ b v, b ≠ row → H b = some v → H' b = some v) (hr : H' row = some o') :
    ∃ B', Same B B' ∧ Own B' (Lw.set i (row, o')) H' ∧ ∀ a u, H a = none → H' a = some u → B' a = some u := by
  have hmem : (row, o) ∈ Lw := List.mem_of_getElem? hi
  refine ⟨fun a => if a ∈ Lw.map (·.1) then none else H' a, fun a u e => ?_, ⟨fun a u e => ?_, fun q hq => ?_, fun q hq => ?_, ?_⟩, fun a u h1 h2 => ?_⟩
  · have n : a ∉ Lw.map (·.1) := fun z => by
      obtain ⟨q, hq, rfl⟩ := List.mem_map.mp z
      rw [O.no q hq] at e; cases e
    show (if a ∈ Lw.map (·.1) then none else H' a) = some u
    rw [if_neg n]
    exact k a u (fun z => n (List.mem_map.mpr ⟨_, hmem, z.symm⟩)) (O.st _ _ e)
  · have e : (if a ∈ Lw.map (·.1) then none else H' a) = some u := e
    split at e
    · cases e
    · exact e
  · rcases mem_set1 O.nd hi hq with rfl | ⟨h1, h2⟩
    · exact hr
    · exact k _ _ h2 (O.ow q h1)
  · have m : q.1 ∈ Lw.map (·.1) := by
      rw [← set_map1 hi (o' := o')]
      exact List.mem_map.mpr ⟨q, hq, rfl⟩
    show (if q.1 ∈ Lw.map (·.1) then none else H' q.1) = none
    rw [if_pos m]
  · rw [set_map1 hi]; exact O.nd
  · have n : a ∉ Lw.map (·.1) := fun z => by
      obtain ⟨q, hq, rfl⟩ := List.mem_map.mp z
      rw [O.ow q hq] at h1; cases h1
    show (if a ∈ Lw.map (·.1) then none else H' a) = some u
    rw [if_neg n]
    exact h2
end R
namespace R
open PySem PySem.Spec PyProof.Rows L2
open PySem.W (Frag)
section
variable {K : Frag} {B H : Hp} {Lw : List (Addr × HO)} {a p q : Addr} {xs : List V} {lo hi : Option Int} {Q : VK} {w : V}
theorem a_neSL (hv : ∀ v ∈ xs, SameIt v) (hp : SqL K H p xs) (hq : SqL K H q xs) (h : Q (.bl false) H) : rNeS K (.ref p) (.ref q) H Q := ⟨p, q, xs, rfl, rfl, hp, hq, hv, h⟩
theorem cutV_to (xs : List V) (k : Nat) : cutV xs none (some (k : Int)) = xs.take k := by
  unfold cutV
  rw [HT.sIx_none, HT.sIx_nat, List.drop_zero, Nat.sub_zero]
  by_cases c : k ≤ xs.length
  · rw [Nat.min_eq_left c]
  · rw [Nat.min_eq_right (by omega), List.take_of_length_le (by omega), List.take_of_length_le (by omega)]
theorem cutV_from (xs : List V) (k : Nat) : cutV xs (some (k : Int)) none = xs.drop k := by
  unfold cutV
  rw [HT.sIx_none, HT.sIx_nat]
  by_cases c : k ≤ xs.length
  · rw [Nat.min_eq_left c]
    exact List.take_of_length_le (by rw [List.length_drop]; omega)
  · rw [Nat.min_eq_right (by omega), List.drop_of_length_le (by omega), List.drop_of_length_le (by omega), List.take_nil]
/-- a tuple's slice; the outcome stands in the base -/
theorem a_slA (O : Own B Lw H) (ha : B a = some (.tup xs)) (c : ∀ r B' H', Same B B' → Own B' Lw H' → B' r = some (.tup (cutV xs lo hi)) → Q (.ref r) H') : rSlA K (.ref a) lo hi H Q := by
  refine ⟨a, xs, rfl, SqT.of (O.st _ _ ha), fun e => ?_, fun _ p hp => ?_⟩
  · have z : cutV xs lo hi = xs := by
      unfold cutV
      rw [e.1, e.2, List.drop_zero, Nat.sub_zero, List.take_length]
    exact c a B H (Same.refl B) O (by rw [z]; exact ha)
  · have O2 := Own.new (o := .tup (cutV xs lo hi)) O hp
    exact c p _ _ O2.fixS O2.fix upd_same
end
/-- w stands at place n, good ones ahead of it -/
def WrongAt (xs : List V) (n : Nat) (w : V) (G : V → Prop) : Prop := xs[n]? = some w ∧ ∀ (i : Nat) (x : V), i < n → xs[i]? = some x → G x
theorem wrongAt_put {ms : List Int} {n : Nat} {w : V} {G : V → Prop} {tl : List V} (hn : n ≤ ms.length) (hg : ∀ m ∈ ms, G (.int m)) : WrongAt ((ms.map V.int).take n ++ [w] ++ tl) n w G := by
  have l : ((ms.map V.int).take n).length = n := by rw [List.length_take, List.length_map]; omega
  refine ⟨?_, fun i x hi hx => ?_⟩
  · rw [List.append_assoc, List.getElem?_append_right (by omega), l, Nat.sub_self]; rfl
  · rw [List.append_assoc, List.getElem?_append_left (by omega), List.getElem?_take, if_pos hi, List.getElem?_map] at hx
    obtain ⟨m, hm, rfl⟩ := Option.map_eq_some_iff.mp hx
    exact hg m (List.mem_of_getElem? hm)
/-- not a tuple -/
inductive NotTup (K : Frag) (H : Hp) : V → Prop
  | non : NotTup K H .non
  | bl (b : Bool) : NotTup K H (.bl b)
  | str (z : Str) : NotTup K H (.str z)
  | int (i : Int) : NotTup K H (.int i)
  | lst {a : Addr} {xs : List V} (h : H a = some (.lst xs)) : NotTup K H (.ref a)
  | dK {a : Addr} {kvs : List (Key × V)} (h : H a = some (.dK kvs)) : NotTup K H (.ref a)
theorem NotTup.same {K : Frag} {B H : Hp} {v : V} (s : Same B H) (h : NotTup K B v) : NotTup K H v := by
  cases h with
  | non => exact .non
  | bl b => exact .bl b
  | str z => exact .str z
  | int i => exact .int i
  | lst h => exact .lst (s _ _ h)
  | dK h => exact .dK (s _ _ h)
section
variable {K : Frag} {H : Hp} {v : V} {Q : VK} {p : Addr} {xs : List V}
theorem a_isiNT (h : NotTup K H v) (q : Q (.bl false) H) : rIsi K [v, .ty "tuple"] H Q := by
  cases h with
  | non => exact ⟨_, _, .type "NoneType", .type "tuple", false, rfl, .ty _, .base .non, kit_ty (by decide +kernel), q⟩
  | bl b => exact ⟨_, _, .type "bool", .type "tuple", false, rfl, .ty _, .base (.bl b), kit_ty (by decide +kernel), q⟩
  | str z => exact ⟨_, _, .type "str", .type "tuple", false, rfl, .ty _, .base (.str z), kit_ty (by decide +kernel), q⟩
  | int i => exact ⟨_, _, .type "int", .type "tuple", false, rfl, .ty _, .base (.int i), kit_ty (by decide +kernel), q⟩
  | lst h => exact ⟨_, _, .type "list", .type "tuple", false, rfl, .ty _, .base (.lst h), kit_ty (by decide +kernel), q⟩
  | dK h => exact ⟨_, _, .type "dict", .type "tuple", false, rfl, .ty _, .base (.dK h), kit_ty (by decide +kernel), q⟩
theorem a_isiT1 (h : H p = some (.tup xs)) (q : Q (.bl true) H) : rIsi K [.ref p, .ty "tuple"] H Q := ⟨_, _, .type "tuple", .type "tuple", true, rfl, .ty _, .base (.tup h), kit_ty (by decide +kernel), q⟩
end
/-- no tuple of so many things -/
def NoTup (K : Frag) (H : Hp) (v : V) (lo hi : Nat) : Prop := NotTup K H v ∨ ∃ p xs, v = .ref p ∧ H p = some (.tup xs) ∧ ¬ (lo ≤ xs.length ∧ xs.length ≤ hi)
theorem NoTup.same {K : Frag} {B H : Hp} {v : V} {lo hi : Nat} (s : Same B H) (h : NoTup K B v lo hi) : NoTup K H v lo hi := by
  rcases h with h | ⟨p, xs, e, h, n⟩
  · exact .inl (h.same s)
  · exact .inr ⟨p, xs, e, s _ _ h, n⟩
end R

/-! ## x == y by an own __eq__, properties -/
namespace R
open PySem PySem.Spec PyProof.Rows L2
open PySem.W (Frag)
/-- what may stand on the right of == beside an instance of the class at C -/
def EqTy (K : Frag) (H : Hp) (C : Addr) (y : V) : Prop := ∃ b, y = .ref b ∧ ((∃ dx fs, H b = some (.ins C dx fs)) ∨ ∃ xs, H b = some (.tup xs))
def rOwnE (K : Frag) (C : Addr) (sp : Sp) : R2 := fun x y H Q => ∃ a dx fs, x = .ref a ∧ H a = some (.ins C dx fs) ∧ EqTy K H C y ∧ sp [x, y] H (fun v H' => (∃ b, v = .bl b) ∧ Q v H') (fun _ _ _ => False)
theorem sub_no {K : Frag} {C : Addr} {t : String} (hm : (PySem.fastBuiltinMro t).map (·.all isTy) = some true) : PySem.W.notFirst K C (.type t) = true := by
  obtain ⟨l, h1, h2⟩ := Option.map_eq_some_iff.mp hm
  have z : l.contains (Value.ref C) = false := by
    cases e : l.contains (Value.ref C) with
    | false => rfl
    | true =>
      have m : Value.ref C ∈ l := by simpa using e
      have y := List.all_eq_true.mp h2 _ m
      cases y
  have e : PySem.W.subIn K (.type t) (.ref C) = some false := by
    show (PySem.fastBuiltinMro t).map (·.contains (.ref C)) = some false
    rw [h1]
    show some (l.contains (Value.ref C)) = some false
    rw [z]
  unfold PySem.W.notFirst
  rw [e]
  simp
section
variable {X : Cx} {n : Nat} {C f : Addr} {fd : FuncData} {ps : List Str} {sp : Sp}
theorem op_eqOwn (F : FnOk X.prog X.w X.K X.mg X.base CX0 n f fd ps sp) (hr : Room n X.A) (hs : PySem.W.findIn X.K (.ref C) "__eq__" = some (some (.ref f))) (hf : PySem.W.isFn X.K (.ref f) = true) (hb : Binds X.K fd ps []) : OpR X (compareOp .Eq) (rOwnE X.K C sp) := by
  intro pins s σ H x y u v Q I rx ry h
  obtain ⟨a, dx, fs, rfl, ha, ⟨b, rfl, hy⟩, hsp⟩ := h
  cases rx
  cases ry
  show wpAny (model X.prog X.w) X.A (richCompare .Eq (.ref a) (.ref b)) (EP X pins σ Q) X.xe s
  obtain ⟨mA, J, _⟩ := ins_get I.hok ha
  obtain ⟨od, J, _⟩ := J.look
  obtain ⟨m, hF⟩ := I.fr
  have fin : wpAny (model X.prog X.w) X.A (call (.ref f) [.ref a, .ref b]) (PySem.W.CmpBack (EP X pins σ Q)) X.xe s := by
    have hl := F.len _ _ _ _ hsp
    have r2 : Vals [V.ref a, V.ref b] [Value.ref a, Value.ref b] := .cons rfl (.cons rfl .nil)
    refine wpAny_call (codeAny_mono (F.run X.A X.stack s H ⟨[.ref a, .ref b], []⟩ [.ref a, .ref b] [.ref a, .ref b] _ _ hr I.env0 (by
      have := hb s [.ref a, .ref b] I.kIn (by simpa using hl)
      simpa using this) r2 hsp) fun r s' hq => ?_)
    cases r with
    | error e => exact hq.elim
    | ok fl =>
      cases fl with
      | ret w =>
        obtain ⟨z, H', I', rz, ⟨bb, ez⟩, q⟩ := I.after hq
        subst ez
        cases rz
        exact ⟨.bl bb, H', I', rfl, q⟩
      | next => exact False.elim hq
      | brk => exact False.elim hq
      | cont => exact False.elim hq
  rcases hy with ⟨dy, gs, hy⟩ | ⟨xs, hy⟩
  · obtain ⟨mB, J', _⟩ := ins_get I.hok hy
    obtain ⟨od', J', _⟩ := J'.look
    exact PySem.W.cmp_K (op := .Eq) (tb := .ref C) hr.units0 hF I.ok.mod.kin J J'.type (by simp [PySem.W.notFirst]) hs hf fin
  · obtain ⟨_, _, _, o, h1, h2, _⟩ := (show ObjOk X.prog X.w H s.heap b (.tup xs) from I.hok b _ hy)
    exact PySem.W.cmp_K (op := .Eq) (tb := .type "tuple") hr.units0 hF I.ok.mod.kin J (fun A Q E s k q => wpAny_typeOf_ref (k _ _ h1) (by rw [h2]; exact q)) (sub_no (by decide +kernel)) hs hf fin
end
section
variable {K : Frag} {C : Addr} {sp : Sp} {dvs : List V} {E : XK} {ta : TE} {σ : L2.St} {H : Hp} {Q : VK}
theorem a_prop (h : ta σ H fun x H1 => ∃ a dx fs, x = .ref a ∧ H1 a = some (.ins C dx fs) ∧ sp (.ref a :: dvs) H1 Q E) : tProp C sp dvs E ta σ H Q := h
end
end R

/-! ## == of tuples of ints, both ways; the last item -/
namespace R
open PySem PySem.Spec PyProof.Rows L2
open PySem.W (Frag)
theorem eqvAll_ints : ∀ a b : List Int, PyData.eqvAll (a.map .int) (b.map .int) = decide (a = b)
  | [], [] => rfl
  | [], y :: b => rfl
  | x :: a, [] => rfl
  | x :: a, y :: b => by
    show ((x == y) && PyData.eqvAll (a.map .int) (b.map .int)) = _
    rw [eqvAll_ints a b]
    by_cases h1 : x = y
    · by_cases h2 : a = b
      · rw [h1, h2]; simp
      · rw [decide_eq_false h2, decide_eq_false (fun z => h2 (List.cons.inj z).2), Bool.and_false]
    · rw [decide_eq_false (fun z => h1 (List.cons.inj z).1), beq_eq_false_iff_ne.mpr h1, Bool.false_and]
theorem eqv_pyT (a b : List Int) : PyData.eqv (pyT a) (pyT b) = decide (a = b) := eqvAll_ints a b
section
variable {K : Frag} {H : Hp} {p q : Addr} {f g : List Int} {Q : VK}
theorem a_eqTT (hx : SqT K H p (f.map V.int)) (hy : SqT K H q (g.map V.int)) (h : Q (.bl (decide (f = g))) H) : rEqD K (.ref p) (.ref q) H Q :=
  ⟨pyT f, pyT g, dp_pyT hx, dp_pyT hy, shaped_of (can_pyT f) (Nat.le_trans (dep_pyT f) (by decide)), shaped_of (can_pyT g) (Nat.le_trans (dep_pyT g) (by decide)), by rw [eqv_pyT]; exact h⟩
end
theorem atI_neg1 {α : Type} (xs : List α) (x : α) : atI (xs ++ [x]) (-1) = some x := by
  unfold atI ixN
  rw [if_neg (by decide), if_pos (by rw [List.length_append, List.length_singleton]; omega)]
  show (xs ++ [x])[((-1 : Int) + ((xs ++ [x]).length : Int)).toNat]? = some x
  rw [List.length_append, List.length_singleton, show ((-1 : Int) + ((xs.length + 1 : Nat) : Int)).toNat = xs.length by omega, List.getElem?_append_right (Nat.le_refl _), Nat.sub_self]
  rfl
theorem cutV_init (xs : List V) (x : V) : cutV (xs ++ [x]) none (some (-1)) = xs := by
  unfold cutV
  rw [HT.sIx_none]
  have e : HT.sIx (xs ++ [x]).length (xs ++ [x]).length (some (-1)) = xs.length := by
    show (if (-1 : Int) < 0 then ((-1 : Int) + ((xs ++ [x]).length : Int)).toNat else min (-1 : Int).toNat (xs ++ [x]).length) = xs.length
    rw [if_pos (by decide), List.length_append, List.length_singleton]
    omega
  rw [e, List.drop_zero, Nat.sub_zero, List.take_append_of_le_length (Nat.le_refl _), List.take_length]
end R

local macro_rules | `(tactic| walk_at "s") => `(tactic| first
  | with_reducible refine R.a_seq ?_ | with_reducible refine R.a_asg ?_ | with_reducible refine R.a_gname ?_ | ((with_reducible refine' R.a_var ?h1 ?h2); (case h1 => rfl)) | with_reducible refine R.a_c ?_
  | with_reducible refine R.a_op ?_ | with_reducible refine R.a_un ?_ | with_reducible refine R.a_neg ?_ | with_reducible refine R.a_drop ?_ | with_reducible refine R.a_ret ?_ | with_reducible refine R.a_retN ?_
  | with_reducible refine R.a_test ?_ | with_reducible refine R.a_tB ?_ | with_reducible refine R.a_bk ?_ | with_reducible refine R.a_and ?_ | with_reducible refine R.a_or ?_ | with_reducible refine R.a_not ?_
  | with_reducible refine R.a_andV ?_ | with_reducible refine R.a_orV ?_ | with_reducible refine R.a_notV ?_ | with_reducible refine R.a_bv ?_ | with_reducible refine R.a_ifE ?_
  | with_reducible refine R.a_nil ?_ | with_reducible refine R.a_cons ?_ | with_reducible refine R.a_tup ?_ | with_reducible refine R.a_lst ?_ | with_reducible refine R.a_cb ?_ | with_reducible refine R.a_call ?_ | with_reducible refine R.a_chain ?_
  | with_reducible refine R.a_sl ?_ | with_reducible refine R.a_npart ?_ | with_reducible refine R.a_part ?_ | with_reducible refine R.a_ik ?_ | with_reducible refine R.a_gsub ?_ | with_reducible refine R.a_bm ?_ | with_reducible refine R.a_bm0 ?_ | with_reducible refine R.a_par ?_ | with_reducible refine R.a_par2 ?_
  | with_reducible refine R.a_for ?_ | with_reducible refine R.a_rev ?_ | with_reducible refine R.a_iL ?_ | with_reducible refine R.a_iT ?_ | with_reducible refine R.a_enum ?_ | with_reducible refine R.a_lc ?_ | with_reducible refine R.a_rng1 ?_ | with_reducible refine R.a_rng2 ?_ | with_reducible refine R.a_next ?_ | with_reducible refine R.a_yes ?_ | with_reducible refine R.a_gcons ?_ | with_reducible refine R.a_gnil ?_
  | ((with_reducible refine R.a_rng1' ?h1 ?h2 ?h3); (case h1 => omega); (case h2 => omega)) | ((with_reducible refine R.a_rng2' ?h1 ?h2); (case h1 => omega))
  | with_reducible refine R.a_I0 ?_ | with_reducible refine R.a_eqI ?_ | with_reducible refine R.a_neI ?_ | with_reducible refine R.a_isN1 ?_ | with_reducible refine R.a_notN1 ?_
  | ((with_reducible refine R.a_isN0 ?h1 ?h2); (case h1 => (intro z; cases z))) | ((with_reducible refine R.a_notN0 ?h1 ?h2); (case h1 => (intro z; cases z)))
  | with_reducible refine R.a_isiI ?_ | with_reducible refine R.a_isiB ?_
  | ((with_reducible refine R.a_I ?h1 ?h2); (case h1 => first | omega | exact R.mx_l (by omega) (by omega) | exact R.mx_r (by omega) (by omega) | exact R.divW (by omega) (by omega)))
  | with_reducible refine R.a_tt ?_ | with_reducible refine R.a_ff ?_ | with_reducible refine R.a_nt ?_ | with_reducible refine R.a_nf ?_)
-- a test whose answer is known
local macro_rules | `(tactic| walk_at "k") => `(tactic| first
  | ((with_reducible refine R.a_itT ?h1 ?h2); (case h1 => first | assumption | omega)) | ((with_reducible refine R.a_itF ?h1 ?h2); (case h1 => first | assumption | omega))
  | ((with_reducible refine R.a_niT ?h1 ?h2); (case h1 => first | assumption | omega)) | ((with_reducible refine R.a_niF ?h1 ?h2); (case h1 => first | assumption | omega)))
local macro_rules | `(tactic| walk_at "k") => `(tactic| first
  | ((with_reducible refine R.a_cT ?h1 ?h2 ?h3); (case h1 => first | assumption | omega); (case h2 => first | assumption | omega))
  | ((with_reducible refine R.a_ncT ?h1 ?h2 ?h3); (case h1 => first | assumption | omega); (case h2 => first | assumption | omega)))
local macro_rules | `(tactic| walk_at "c") => `(tactic| fail)
local macro_rules | `(tactic| walk_at "sq") => `(tactic| first | assumption | (refine' R.Own.sq ?o 0 ?e; (case o => assumption); (case e => rfl)) | (refine' R.Own.sq ?o 1 ?e; (case o => assumption); (case e => rfl)) | (refine' R.Own.sq ?o 2 ?e; (case o => assumption); (case e => rfl)) | (refine' R.Own.sq ?o 3 ?e; (case o => assumption); (case e => rfl)) | (refine' R.Own.sq ?o 4 ?e; (case o => assumption); (case e => rfl)) | (refine' R.Own.sq ?o 5 ?e; (case o => assumption); (case e => rfl)) | (refine' R.Own.sq ?o 6 ?e; (case o => assumption); (case e => rfl)) | (refine' R.Own.sq ?o 7 ?e; (case o => assumption); (case e => rfl)) | (refine' R.Own.sq ?o 8 ?e; (case o => assumption); (case e => rfl)) | (refine' R.Own.sq ?o 9 ?e; (case o => assumption); (case e => rfl)) | (refine' R.Own.seq ?o ?e; (case o => assumption); (case e => assumption)))
local macro_rules | `(tactic| walk_at "tq") => `(tactic| first | assumption | (refine' R.Own.tq ?o 0 ?e; (case o => assumption); (case e => rfl)) | (refine' R.Own.tq ?o 1 ?e; (case o => assumption); (case e => rfl)) | (refine' R.Own.tq ?o 2 ?e; (case o => assumption); (case e => rfl)) | (refine' R.Own.tq ?o 3 ?e; (case o => assumption); (case e => rfl)) | (refine' R.Own.tq ?o 4 ?e; (case o => assumption); (case e => rfl)) | (refine' R.Own.tq ?o 5 ?e; (case o => assumption); (case e => rfl)) | (refine' R.Own.tq ?o 6 ?e; (case o => assumption); (case e => rfl)) | (refine' R.Own.tq ?o 7 ?e; (case o => assumption); (case e => rfl)) | (refine' R.Own.tq ?o 8 ?e; (case o => assumption); (case e => rfl)) | (refine' R.Own.tq ?o 9 ?e; (case o => assumption); (case e => rfl)) | (refine' R.Own.tup ?o ?e; (case o => assumption); (case e => assumption)))
local macro_rules | `(tactic| walk_at "c") => `(tactic| first
  | ((with_reducible refine' R.a_ixL ?s ?a ?q); (case s => walk_at "sq"); (case a => rfl))
  | ((with_reducible refine' R.a_ixT ?s ?a ?q); (case s => walk_at "tq"); (case a => rfl))
  | ((with_reducible refine' R.a_gtup ?k1 ?k2 ?k3); (case k1 => walk_at "tq"); (case k2 => rfl))
  | with_reducible refine R.a_int1 ?_ | with_reducible refine R.a_abs ?_
  | ((with_reducible refine' R.a_len ?k1 ?k2); (case k1 => first | (refine Or.inl ?_; walk_at "sq") | (refine Or.inr ?_; walk_at "tq")))
  | ((with_reducible refine' R.a_pow (k := 18) ?n ?k ?m ?q); (case n => rfl); (case k => decide); (case m => decide)) | ((with_reducible refine' R.a_pow (k := 40) ?n ?k ?m ?q); (case n => rfl); (case k => decide); (case m => decide)) | ((with_reducible refine' R.a_pow (k := 6) ?n ?k ?m ?q); (case n => rfl); (case k => decide); (case m => decide)) | ((with_reducible refine' R.a_pow (k := 20) ?n ?k ?m ?q); (case n => rfl); (case k => decide); (case m => decide)) | ((with_reducible refine' R.a_pow (k := 30) ?n ?k ?m ?q); (case n => rfl); (case k => decide); (case m => decide)) | ((with_reducible refine' R.a_pow (k := 39) ?n ?k ?m ?q); (case n => rfl); (case k => decide); (case m => decide))
  | ((with_reducible refine' R.a_setL ?k1 0 ?k2 ?k3 ?k4); (case k1 => assumption); (case k2 => rfl); (case k3 => rfl); intro H' O') | ((with_reducible refine' R.a_setL ?k1 1 ?k2 ?k3 ?k4); (case k1 => assumption); (case k2 => rfl); (case k3 => rfl); intro H' O') | ((with_reducible refine' R.a_setL ?k1 2 ?k2 ?k3 ?k4); (case k1 => assumption); (case k2 => rfl); (case k3 => rfl); intro H' O') | ((with_reducible refine' R.a_setL ?k1 3 ?k2 ?k3 ?k4); (case k1 => assumption); (case k2 => rfl); (case k3 => rfl); intro H' O') | ((with_reducible refine' R.a_setL ?k1 4 ?k2 ?k3 ?k4); (case k1 => assumption); (case k2 => rfl); (case k3 => rfl); intro H' O') | ((with_reducible refine' R.a_setL ?k1 5 ?k2 ?k3 ?k4); (case k1 => assumption); (case k2 => rfl); (case k3 => rfl); intro H' O') | ((with_reducible refine' R.a_setL ?k1 6 ?k2 ?k3 ?k4); (case k1 => assumption); (case k2 => rfl); (case k3 => rfl); intro H' O') | ((with_reducible refine' R.a_setL ?k1 7 ?k2 ?k3 ?k4); (case k1 => assumption); (case k2 => rfl); (case k3 => rfl); intro H' O') | ((with_reducible refine' R.a_setL ?k1 8 ?k2 ?k3 ?k4); (case k1 => assumption); (case k2 => rfl); (case k3 => rfl); intro H' O') | ((with_reducible refine' R.a_setL ?k1 9 ?k2 ?k3 ?k4); (case k1 => assumption); (case k2 => rfl); (case k3 => rfl); intro H' O'))
local macro_rules | `(tactic| walk_at "app") => `(tactic| first | ((with_reducible refine' R.a_app ?k1 0 ?k2 ?k3 ?k4); (case k1 => assumption); (case k2 => rfl)) | ((with_reducible refine' R.a_app ?k1 1 ?k2 ?k3 ?k4); (case k1 => assumption); (case k2 => rfl)) | ((with_reducible refine' R.a_app ?k1 2 ?k2 ?k3 ?k4); (case k1 => assumption); (case k2 => rfl)) | ((with_reducible refine' R.a_app ?k1 3 ?k2 ?k3 ?k4); (case k1 => assumption); (case k2 => rfl)) | ((with_reducible refine' R.a_app ?k1 4 ?k2 ?k3 ?k4); (case k1 => assumption); (case k2 => rfl)) | ((with_reducible refine' R.a_app ?k1 5 ?k2 ?k3 ?k4); (case k1 => assumption); (case k2 => rfl)))
local macro_rules | `(tactic| walk_at "mkL") => `(tactic| ((with_reducible refine' R.a_mkL ?k1 ?k2 ?k3); (case k1 => assumption); (case k2 => first | exact Nat.zero_le _ | (simp only [List.length_cons, List.length_nil, List.length_map]; omega))))
local macro_rules | `(tactic| walk_at "mkT") => `(tactic| ((with_reducible refine' R.a_mkT ?k1 ?k2 ?k3); (case k1 => assumption); (case k2 => first | exact Nat.zero_le _ | (simp only [List.length_cons, List.length_nil, List.length_map]; omega))))
local macro_rules | `(tactic| walk_at "h") => `(tactic| repeat (first | walk_at "s" | walk_at "k" | walk_at "c"))
local macro_rules | `(tactic| walk_at "g") => `(tactic| repeat (first | walk_at "s" | walk_at "k" | walk_at "c" | with_reducible refine R.a_if ?_))
local macro_rules | `(tactic| walk_at "s") => `(tactic| with_reducible refine R.a_enumT ?_)
local macro_rules | `(tactic| walk_at "s") => `(tactic| first | with_reducible refine R.a_fld ?_ | with_reducible refine R.a_sfld ?_ | with_reducible refine R.a_make ?_)
local macro_rules | `(tactic| walk_at "c") => `(tactic| ((with_reducible refine' R.a_glst ?k1 ?k2 ?k3); (case k1 => walk_at "sq"); (case k2 => rfl)))
local macro_rules | `(tactic| walk_at "s") => `(tactic| first | with_reducible refine R.a_neB ?_ | with_reducible refine R.a_eqB ?_ | with_reducible refine R.a_neO ?_ | with_reducible refine R.a_isO1 ?_ | with_reducible refine R.a_isO0 ?_ | with_reducible refine R.a_notO1 ?_ | with_reducible refine R.a_notO0 ?_)
local macro_rules | `(tactic| walk_at "s") => `(tactic| first | with_reducible refine R.a_par3 ?_ | with_reducible refine R.a_par33 ?_)
local macro_rules | `(tactic| walk_at "s") => `(tactic| first | with_reducible refine R.a_vei ?_ | with_reducible refine R.a_ost ?_ | with_reducible refine R.a_raise0 ?_ | with_reducible refine R.a_raise1 ?_ | with_reducible refine R.a_r1 ?_ | with_reducible refine R.a_try ?_ | with_reducible refine R.a_as ?_ | with_reducible refine R.a_xf ?_ | with_reducible refine R.a_callV ?_ | with_reducible refine R.a_callS ?_ | with_reducible refine R.a_makeS ?_ | with_reducible refine R.a_meth ?_)
local macro_rules | `(tactic| walk_at "callV") => `(tactic| ((first | refine ⟨_, _, rfl, (.head _), ?_⟩ | refine ⟨_, _, rfl, (.tail _ (.head _)), ?_⟩ | refine ⟨_, _, rfl, (.tail _ (.tail _ (.head _))), ?_⟩ | refine ⟨_, _, rfl, (.tail _ (.tail _ (.tail _ (.head _)))), ?_⟩ | refine ⟨_, _, rfl, (.tail _ (.tail _ (.tail _ (.tail _ (.head _))))), ?_⟩ | refine ⟨_, _, rfl, (.tail _ (.tail _ (.tail _ (.tail _ (.tail _ (.head _)))))), ?_⟩ | refine ⟨_, _, rfl, (.tail _ (.tail _ (.tail _ (.tail _ (.tail _ (.tail _ (.head _))))))), ?_⟩ | refine ⟨_, _, rfl, (.tail _ (.tail _ (.tail _ (.tail _ (.tail _ (.tail _ (.tail _ (.head _)))))))), ?_⟩); walk_at "g"))
local macro_rules | `(tactic| walk_at "s") => `(tactic| first | with_reducible refine R.a_neS1 ?_ | with_reducible refine R.a_eqS1 ?_)
local macro_rules | `(tactic| walk_at "badv") => `(tactic| first | exact R.BadV.non | exact R.BadV.bl | exact R.BadV.str (by first | rfl | decide +kernel) | exact R.BadV.int (by omega))
local macro_rules | `(tactic| walk_at "s") => `(tactic| with_reducible refine R.a_prop ?_)

namespace Toy
open PySem PySem.Spec PyProof.Rows L2 R
open PySem.W (Frag)
def topS (i : Nat) : Stmt := PySem.Challenge.pw_resttricks_k16_sums_refused.main.body.getD i (.Pass ⟨0, 0, 0, 0⟩)
abbrev s_BadBase_init : Stmt := (inClass (topS 2) 0)
abbrev N_BadBase_init : List Str := ["self"]
abbrev p_BadBase_init : List Str := ["self"]
theorem sc_BadBase_init : FnScope N_BadBase_init p_BadBase_init (defScope s_BadBase_init) := ⟨rfl, rfl, rfl, by decide +kernel, rfl, by decide +kernel, by decide +kernel⟩
abbrev s_BadTake_init : Stmt := (inClass (topS 3) 0)
abbrev N_BadTake_init : List Str := ["self"]
abbrev p_BadTake_init : List Str := ["self"]
theorem sc_BadTake_init : FnScope N_BadTake_init p_BadTake_init (defScope s_BadTake_init) := ⟨rfl, rfl, rfl, by decide +kernel, rfl, by decide +kernel, by decide +kernel⟩
abbrev s_BadNumber_init : Stmt := (inClass (topS 4) 0)
abbrev N_BadNumber_init : List Str := ["self", "n"]
abbrev p_BadNumber_init : List Str := ["self", "n"]
theorem sc_BadNumber_init : FnScope N_BadNumber_init p_BadNumber_init (defScope s_BadNumber_init) := ⟨rfl, rfl, rfl, by decide +kernel, rfl, by decide +kernel, by decide +kernel⟩
abbrev s_BadDivisor_init : Stmt := (inClass (topS 5) 0)
abbrev N_BadDivisor_init : List Str := ["self"]
abbrev p_BadDivisor_init : List Str := ["self"]
theorem sc_BadDivisor_init : FnScope N_BadDivisor_init p_BadDivisor_init (defScope s_BadDivisor_init) := ⟨rfl, rfl, rfl, by decide +kernel, rfl, by decide +kernel, by decide +kernel⟩
abbrev s_BadWeights_init : Stmt := (inClass (topS 6) 0)
abbrev N_BadWeights_init : List Str := ["self", "index"]
abbrev p_BadWeights_init : List Str := ["self", "index"]
theorem sc_BadWeights_init : FnScope N_BadWeights_init p_BadWeights_init (defScope s_BadWeights_init) := ⟨rfl, rfl, rfl, by decide +kernel, rfl, by decide +kernel, by decide +kernel⟩
abbrev s_BadSum_init : Stmt := (inClass (topS 7) 0)
abbrev N_BadSum_init : List Str := ["self"]
abbrev p_BadSum_init : List Str := ["self"]
theorem sc_BadSum_init : FnScope N_BadSum_init p_BadSum_init (defScope s_BadSum_init) := ⟨rfl, rfl, rfl, by decide +kernel, rfl, by decide +kernel, by decide +kernel⟩
abbrev s_is_from : Stmt := (topS 12)
abbrev N_is_from : List Str := ["value", "low", "high"]
abbrev p_is_from : List Str := ["value", "low", "high"]
theorem sc_is_from : FnScope N_is_from p_is_from (defScope s_is_from) := ⟨rfl, rfl, rfl, by decide +kernel, rfl, by decide +kernel, by decide +kernel⟩
abbrev s_need_base : Stmt := (topS 13)
abbrev N_need_base : List Str := ["base"]
abbrev p_need_base : List Str := ["base"]
theorem sc_need_base : FnScope N_need_base p_need_base (defScope s_need_base) := ⟨rfl, rfl, rfl, by decide +kernel, rfl, by decide +kernel, by decide +kernel⟩
abbrev s_need_divisor : Stmt := (topS 14)
abbrev N_need_divisor : List Str := ["d", "most"]
abbrev p_need_divisor : List Str := ["d", "most"]
theorem sc_need_divisor : FnScope N_need_divisor p_need_divisor (defScope s_need_divisor) := ⟨rfl, rfl, rfl, by decide +kernel, rfl, by decide +kernel, by decide +kernel⟩
abbrev s_power : Stmt := (topS 16)
abbrev N_power : List Str := ["base", "many", "found", "turn"]
abbrev p_power : List Str := ["base", "many"]
theorem sc_power : FnScope N_power p_power (defScope s_power) := ⟨rfl, rfl, rfl, by decide +kernel, rfl, by decide +kernel, by decide +kernel⟩
abbrev s_need_weights : Stmt := (topS 24)
abbrev N_need_weights : List Str := ["weights", "least", "index", "weight"]
abbrev p_need_weights : List Str := ["weights", "least"]
theorem sc_need_weights : FnScope N_need_weights p_need_weights (defScope s_need_weights) := ⟨rfl, rfl, rfl, by decide +kernel, rfl, by decide +kernel, by decide +kernel⟩
abbrev s_Sum_init : Stmt := (inClass (topS 25) 0)
abbrev N_Sum_init : List Str := ["self", "base", "take", "first", "loop"]
abbrev p_Sum_init : List Str := ["self", "base", "take", "first", "loop"]
theorem sc_Sum_init : FnScope N_Sum_init p_Sum_init (defScope s_Sum_init) := ⟨rfl, rfl, rfl, by decide +kernel, rfl, by decide +kernel, by decide +kernel⟩
abbrev s_Sum_base : Stmt := (inClass (topS 25) 1)
abbrev N_Sum_base : List Str := ["self"]
abbrev p_Sum_base : List Str := ["self"]
theorem sc_Sum_base : FnScope N_Sum_base p_Sum_base (defScope s_Sum_base) := ⟨rfl, rfl, rfl, by decide +kernel, rfl, by decide +kernel, by decide +kernel⟩
abbrev s_Sum_take : Stmt := (inClass (topS 25) 2)
abbrev N_Sum_take : List Str := ["self"]
abbrev p_Sum_take : List Str := ["self"]
theorem sc_Sum_take : FnScope N_Sum_take p_Sum_take (defScope s_Sum_take) := ⟨rfl, rfl, rfl, by decide +kernel, rfl, by decide +kernel, by decide +kernel⟩
abbrev s_Sum_first : Stmt := (inClass (topS 25) 3)
abbrev N_Sum_first : List Str := ["self"]
abbrev p_Sum_first : List Str := ["self"]
theorem sc_Sum_first : FnScope N_Sum_first p_Sum_first (defScope s_Sum_first) := ⟨rfl, rfl, rfl, by decide +kernel, rfl, by decide +kernel, by decide +kernel⟩
abbrev s_Sum_loop : Stmt := (inClass (topS 25) 4)
abbrev N_Sum_loop : List Str := ["self"]
abbrev p_Sum_loop : List Str := ["self"]
theorem sc_Sum_loop : FnScope N_Sum_loop p_Sum_loop (defScope s_Sum_loop) := ⟨rfl, rfl, rfl, by decide +kernel, rfl, by decide +kernel, by decide +kernel⟩
abbrev s_Sum_eq : Stmt := (inClass (topS 25) 5)
abbrev N_Sum_eq : List Str := ["self", "other"]
abbrev p_Sum_eq : List Str := ["self", "other"]
theorem sc_Sum_eq : FnScope N_Sum_eq p_Sum_eq (defScope s_Sum_eq) := ⟨rfl, rfl, rfl, by decide +kernel, rfl, by decide +kernel, by decide +kernel⟩
abbrev s_need_sum : Stmt := (topS 26)
abbrev N_need_sum : List Str := ["told"]
abbrev p_need_sum : List Str := ["told"]
theorem sc_need_sum : FnScope N_need_sum p_need_sum (defScope s_need_sum) := ⟨rfl, rfl, rfl, by decide +kernel, rfl, by decide +kernel, by decide +kernel⟩
abbrev s_total : Stmt := (topS 29)
abbrev N_total : List Str := ["told", "n"]
abbrev p_total : List Str := ["told", "n"]
theorem sc_total : FnScope N_total p_total (defScope s_total) := ⟨rfl, rfl, rfl, by decide +kernel, rfl, by decide +kernel, by decide +kernel⟩
abbrev s_sum_fails : Stmt := (topS 38)
abbrev N_sum_fails : List Str := ["told", "d"]
abbrev p_sum_fails : List Str := ["told", "d"]
theorem sc_sum_fails : FnScope N_sum_fails p_sum_fails (defScope s_sum_fails) := ⟨rfl, rfl, rfl, by decide +kernel, rfl, by decide +kernel, by decide +kernel⟩
abbrev s_sum_rest_fails : Stmt := (topS 39)
abbrev N_sum_rest_fails : List Str := ["told", "d"]
abbrev p_sum_rest_fails : List Str := ["told", "d"]
theorem sc_sum_rest_fails : FnScope N_sum_rest_fails p_sum_rest_fails (defScope s_sum_rest_fails) := ⟨rfl, rfl, rfl, by decide +kernel, rfl, by decide +kernel, by decide +kernel⟩
abbrev s_sum_tells : Stmt := (topS 40)
abbrev N_sum_tells : List Str := ["told", "d"]
abbrev p_sum_tells : List Str := ["told", "d"]
theorem sc_sum_tells : FnScope N_sum_tells p_sum_tells (defScope s_sum_tells) := ⟨rfl, rfl, rfl, by decide +kernel, rfl, by decide +kernel, by decide +kernel⟩
abbrev s_law_taken : Stmt := (topS 42)
abbrev N_law_taken : List Str := ["_law_row", "_law_many", "_law_found", "_law_cell"]
abbrev p_law_taken : List Str := ["_law_row", "_law_many"]
theorem sc_law_taken : FnScope N_law_taken p_law_taken (defScope s_law_taken) := ⟨rfl, rfl, rfl, by decide +kernel, rfl, by decide +kernel, by decide +kernel⟩
abbrev s_law_power : Stmt := (topS 43)
abbrev N_law_power : List Str := ["_law_base", "_law_many", "_law_found", "_law_turn"]
abbrev p_law_power : List Str := ["_law_base", "_law_many"]
theorem sc_law_power : FnScope N_law_power p_law_power (defScope s_law_power) := ⟨rfl, rfl, rfl, by decide +kernel, rfl, by decide +kernel, by decide +kernel⟩
abbrev s_law_sum : Stmt := (topS 44)
abbrev N_law_sum : List Str := ["_law_row", "_law_d", "_law_base", "_law_take", "_law_block", "_law_kind", "_law_first", "_law_loop", "_law_some", "_law_rest", "_law_at", "_law_unit", "_law_k", "_law_weight"]
abbrev p_law_sum : List Str := ["_law_row", "_law_d"]
theorem sc_law_sum : FnScope N_law_sum p_law_sum (defScope s_law_sum) := ⟨rfl, rfl, rfl, by decide +kernel, rfl, by decide +kernel, by decide +kernel⟩
abbrev s_law_refused : Stmt := (topS 45)
abbrev N_law_refused : List Str := ["_law_base", "_law_take", "_law_first", "_law_loop", "_law_found", "e"]
abbrev p_law_refused : List Str := ["_law_base", "_law_take", "_law_first", "_law_loop"]
theorem sc_law_refused : FnScope N_law_refused p_law_refused (defScope s_law_refused) := ⟨rfl, rfl, rfl, by decide +kernel, rfl, by decide +kernel, by decide +kernel⟩
abbrev s_law_unsummed : Stmt := (topS 46)
abbrev N_law_unsummed : List Str := ["_law_kind", "_law_value", "_law_raised"]
abbrev p_law_unsummed : List Str := ["_law_kind", "_law_value"]
theorem sc_law_unsummed : FnScope N_law_unsummed p_law_unsummed (defScope s_law_unsummed) := ⟨rfl, rfl, rfl, by decide +kernel, rfl, by decide +kernel, by decide +kernel⟩
abbrev s_law : Stmt := (topS 47)
abbrev N_law : List Str := ["_law_script", "_law_line", "_law_turn", "_law_base", "_law_take", "_law_first", "_law_loop", "_law_told", "_law_bad_base", "_law_bad_take", "_law_none", "_law_bad", "_law_at", "_law_wrong"]
abbrev p_law : List Str := ["_law_script"]
theorem sc_law : FnScope N_law p_law (defScope s_law) := ⟨rfl, rfl, rfl, by decide +kernel, rfl, by decide +kernel, by decide +kernel⟩
structure Adr where
  f_BadBase_init : Addr
  d_BadBase_init : FuncData
  f_BadTake_init : Addr
  d_BadTake_init : FuncData
  f_BadNumber_init : Addr
  d_BadNumber_init : FuncData
  f_BadDivisor_init : Addr
  d_BadDivisor_init : FuncData
  f_BadWeights_init : Addr
  d_BadWeights_init : FuncData
  f_BadSum_init : Addr
  d_BadSum_init : FuncData
  f_is_from : Addr
  d_is_from : FuncData
  f_need_base : Addr
  d_need_base : FuncData
  f_need_divisor : Addr
  d_need_divisor : FuncData
  f_power : Addr
  d_power : FuncData
  f_need_weights : Addr
  d_need_weights : FuncData
  f_Sum_init : Addr
  d_Sum_init : FuncData
  f_Sum_base : Addr
  d_Sum_base : FuncData
  f_Sum_take : Addr
  d_Sum_take : FuncData
  f_Sum_first : Addr
  d_Sum_first : FuncData
  f_Sum_loop : Addr
  d_Sum_loop : FuncData
  f_Sum_eq : Addr
  d_Sum_eq : FuncData
  f_need_sum : Addr
  d_need_sum : FuncData
  f_total : Addr
  d_total : FuncData
  f_sum_fails : Addr
  d_sum_fails : FuncData
  f_sum_rest_fails : Addr
  d_sum_rest_fails : FuncData
  f_sum_tells : Addr
  d_sum_tells : FuncData
  f_law_taken : Addr
  d_law_taken : FuncData
  f_law_power : Addr
  d_law_power : FuncData
  f_law_sum : Addr
  d_law_sum : FuncData
  f_law_refused : Addr
  d_law_refused : FuncData
  f_law_unsummed : Addr
  d_law_unsummed : FuncData
  f_law : Addr
  d_law : FuncData
  c_Sum : Addr
  c_BadBase : Addr
  c_BadTake : Addr
  c_BadNumber : Addr
  c_BadDivisor : Addr
  c_BadWeights : Addr
  c_BadSum : Addr
  c_TrickError : Addr
  p_Sum_base : Addr
  p_Sum_take : Addr
  p_Sum_first : Addr
  p_Sum_loop : Addr
structure Txt (K : Frag) (mg : Str → Option Value) (Z : Adr) : Prop where
  F_BadBase_init : Fun K "__init__" "BadBase.__init__" s_BadBase_init Z.f_BadBase_init Z.d_BadBase_init
  b_BadBase_init : Binds K Z.d_BadBase_init p_BadBase_init []
  F_BadTake_init : Fun K "__init__" "BadTake.__init__" s_BadTake_init Z.f_BadTake_init Z.d_BadTake_init
  b_BadTake_init : Binds K Z.d_BadTake_init p_BadTake_init []
  F_BadNumber_init : Fun K "__init__" "BadNumber.__init__" s_BadNumber_init Z.f_BadNumber_init Z.d_BadNumber_init
  b_BadNumber_init : Binds K Z.d_BadNumber_init p_BadNumber_init []
  F_BadDivisor_init : Fun K "__init__" "BadDivisor.__init__" s_BadDivisor_init Z.f_BadDivisor_init Z.d_BadDivisor_init
  b_BadDivisor_init : Binds K Z.d_BadDivisor_init p_BadDivisor_init []
  F_BadWeights_init : Fun K "__init__" "BadWeights.__init__" s_BadWeights_init Z.f_BadWeights_init Z.d_BadWeights_init
  b_BadWeights_init : Binds K Z.d_BadWeights_init p_BadWeights_init []
  F_BadSum_init : Fun K "__init__" "BadSum.__init__" s_BadSum_init Z.f_BadSum_init Z.d_BadSum_init
  b_BadSum_init : Binds K Z.d_BadSum_init p_BadSum_init []
  F_is_from : Fun K "is_from" "is_from" s_is_from Z.f_is_from Z.d_is_from
  b_is_from : Binds K Z.d_is_from p_is_from []
  g_is_from : mg "is_from" = some (.ref Z.f_is_from)
  F_need_base : Fun K "need_base" "need_base" s_need_base Z.f_need_base Z.d_need_base
  b_need_base : Binds K Z.d_need_base p_need_base []
  g_need_base : mg "need_base" = some (.ref Z.f_need_base)
  F_need_divisor : Fun K "need_divisor" "need_divisor" s_need_divisor Z.f_need_divisor Z.d_need_divisor
  b_need_divisor : Binds K Z.d_need_divisor p_need_divisor []
  g_need_divisor : mg "need_divisor" = some (.ref Z.f_need_divisor)
  F_power : Fun K "power" "power" s_power Z.f_power Z.d_power
  b_power : Binds K Z.d_power p_power []
  g_power : mg "power" = some (.ref Z.f_power)
  F_need_weights : Fun K "need_weights" "need_weights" s_need_weights Z.f_need_weights Z.d_need_weights
  b_need_weights : Binds K Z.d_need_weights p_need_weights []
  g_need_weights : mg "need_weights" = some (.ref Z.f_need_weights)
  F_Sum_init : Fun K "__init__" "Sum.__init__" s_Sum_init Z.f_Sum_init Z.d_Sum_init
  b_Sum_init : Binds K Z.d_Sum_init p_Sum_init []
  F_Sum_base : Fun K "base" "Sum.base" s_Sum_base Z.f_Sum_base Z.d_Sum_base
  b_Sum_base : Binds K Z.d_Sum_base p_Sum_base []
  pr_Sum_base : PropOf K Z.c_Sum "base" Z.p_Sum_base Z.f_Sum_base
  F_Sum_take : Fun K "take" "Sum.take" s_Sum_take Z.f_Sum_take Z.d_Sum_take
  b_Sum_take : Binds K Z.d_Sum_take p_Sum_take []
  pr_Sum_take : PropOf K Z.c_Sum "take" Z.p_Sum_take Z.f_Sum_take
  F_Sum_first : Fun K "first" "Sum.first" s_Sum_first Z.f_Sum_first Z.d_Sum_first
  b_Sum_first : Binds K Z.d_Sum_first p_Sum_first []
  pr_Sum_first : PropOf K Z.c_Sum "first" Z.p_Sum_first Z.f_Sum_first
  F_Sum_loop : Fun K "loop" "Sum.loop" s_Sum_loop Z.f_Sum_loop Z.d_Sum_loop
  b_Sum_loop : Binds K Z.d_Sum_loop p_Sum_loop []
  pr_Sum_loop : PropOf K Z.c_Sum "loop" Z.p_Sum_loop Z.f_Sum_loop
  F_Sum_eq : Fun K "__eq__" "Sum.__eq__" s_Sum_eq Z.f_Sum_eq Z.d_Sum_eq
  b_Sum_eq : Binds K Z.d_Sum_eq p_Sum_eq []
  m_Sum_eq : Meth K Z.c_Sum "__eq__" Z.f_Sum_eq
  F_need_sum : Fun K "need_sum" "need_sum" s_need_sum Z.f_need_sum Z.d_need_sum
  b_need_sum : Binds K Z.d_need_sum p_need_sum []
  g_need_sum : mg "need_sum" = some (.ref Z.f_need_sum)
  F_total : Fun K "total" "total" s_total Z.f_total Z.d_total
  b_total : Binds K Z.d_total p_total []
  g_total : mg "total" = some (.ref Z.f_total)
  F_sum_fails : Fun K "sum_fails" "sum_fails" s_sum_fails Z.f_sum_fails Z.d_sum_fails
  b_sum_fails : Binds K Z.d_sum_fails p_sum_fails []
  g_sum_fails : mg "sum_fails" = some (.ref Z.f_sum_fails)
  F_sum_rest_fails : Fun K "sum_rest_fails" "sum_rest_fails" s_sum_rest_fails Z.f_sum_rest_fails Z.d_sum_rest_fails
  b_sum_rest_fails : Binds K Z.d_sum_rest_fails p_sum_rest_fails []
  g_sum_rest_fails : mg "sum_rest_fails" = some (.ref Z.f_sum_rest_fails)
  F_sum_tells : Fun K "sum_tells" "sum_tells" s_sum_tells Z.f_sum_tells Z.d_sum_tells
  b_sum_tells : Binds K Z.d_sum_tells p_sum_tells []
  g_sum_tells : mg "sum_tells" = some (.ref Z.f_sum_tells)
  F_law_taken : Fun K "_law_taken" "_law_taken" s_law_taken Z.f_law_taken Z.d_law_taken
  b_law_taken : Binds K Z.d_law_taken p_law_taken []
  g_law_taken : mg "_law_taken" = some (.ref Z.f_law_taken)
  F_law_power : Fun K "_law_power" "_law_power" s_law_power Z.f_law_power Z.d_law_power
  b_law_power : Binds K Z.d_law_power p_law_power []
  g_law_power : mg "_law_power" = some (.ref Z.f_law_power)
  F_law_sum : Fun K "_law_sum" "_law_sum" s_law_sum Z.f_law_sum Z.d_law_sum
  b_law_sum : Binds K Z.d_law_sum p_law_sum []
  g_law_sum : mg "_law_sum" = some (.ref Z.f_law_sum)
  F_law_refused : Fun K "_law_refused" "_law_refused" s_law_refused Z.f_law_refused Z.d_law_refused
  b_law_refused : Binds K Z.d_law_refused p_law_refused []
  g_law_refused : mg "_law_refused" = some (.ref Z.f_law_refused)
  F_law_unsummed : Fun K "_law_unsummed" "_law_unsummed" s_law_unsummed Z.f_law_unsummed Z.d_law_unsummed
  b_law_unsummed : Binds K Z.d_law_unsummed p_law_unsummed []
  g_law_unsummed : mg "_law_unsummed" = some (.ref Z.f_law_unsummed)
  F_law : Fun K "law" "law" s_law Z.f_law Z.d_law
  b_law : Binds K Z.d_law p_law []
  g_law : mg "law" = some (.ref Z.f_law)
  g_Sum : mg "Sum" = some (.ref Z.c_Sum)
  cl_Sum : Cls K Z.c_Sum
  is_Sum : C8.InsC K Z.c_Sum
  M_Sum : Mk K Z.c_Sum Z.f_Sum_init
  ty_Sum : ((PySem.W.clsIn K Z.c_Sum).isSome && PySem.W.typeIn K (.ref Z.c_Sum) == some (.type "type")) = true
  nf_Sum_basis : NoAttr K Z.c_Sum "basis"
  nf_Sum_many : NoAttr K Z.c_Sum "many"
  nf_Sum_begun : NoAttr K Z.c_Sum "begun"
  nf_Sum_again : NoAttr K Z.c_Sum "again"
  nf_Sum_block : NoAttr K Z.c_Sum "block"
  g_BadBase : mg "BadBase" = some (.ref Z.c_BadBase)
  g_BadTake : mg "BadTake" = some (.ref Z.c_BadTake)
  g_BadNumber : mg "BadNumber" = some (.ref Z.c_BadNumber)
  g_BadDivisor : mg "BadDivisor" = some (.ref Z.c_BadDivisor)
  g_BadWeights : mg "BadWeights" = some (.ref Z.c_BadWeights)
  g_BadSum : mg "BadSum" = some (.ref Z.c_BadSum)
  g_TrickError : mg "TrickError" = some (.ref Z.c_TrickError)
  oi_TrickError : OinC K Z.c_TrickError
  ox_BadBase : OexC K Z.c_BadBase
  xf_BadBase : XfC K Z.c_BadBase
  ix_BadBase : PySem.W.findIn K (.ref Z.c_BadBase) "__init__" = some (some (.ref Z.f_BadBase_init))
  tx_BadBase : PySem.W.typeIn K (.ref Z.f_BadBase_init) = some (.type "function")
  em_BadBase_BadSum : PySem.W.exmOne K (.ref Z.c_BadBase) (.ref Z.c_BadSum) = some false
  em_BadBase_BadBase : PySem.W.exmOne K (.ref Z.c_BadBase) (.ref Z.c_BadBase) = some true
  em_BadBase_BadTake : PySem.W.exmOne K (.ref Z.c_BadBase) (.ref Z.c_BadTake) = some false
  em_BadBase_BadWeights : PySem.W.exmOne K (.ref Z.c_BadBase) (.ref Z.c_BadWeights) = some false
  ox_BadTake : OexC K Z.c_BadTake
  xf_BadTake : XfC K Z.c_BadTake
  ix_BadTake : PySem.W.findIn K (.ref Z.c_BadTake) "__init__" = some (some (.ref Z.f_BadTake_init))
  tx_BadTake : PySem.W.typeIn K (.ref Z.f_BadTake_init) = some (.type "function")
  em_BadTake_BadSum : PySem.W.exmOne K (.ref Z.c_BadTake) (.ref Z.c_BadSum) = some false
  em_BadTake_BadBase : PySem.W.exmOne K (.ref Z.c_BadTake) (.ref Z.c_BadBase) = some false
  em_BadTake_BadTake : PySem.W.exmOne K (.ref Z.c_BadTake) (.ref Z.c_BadTake) = some true
  em_BadTake_BadWeights : PySem.W.exmOne K (.ref Z.c_BadTake) (.ref Z.c_BadWeights) = some false
  ox_BadNumber : OexC K Z.c_BadNumber
  xf_BadNumber : XfC K Z.c_BadNumber
  ix_BadNumber : PySem.W.findIn K (.ref Z.c_BadNumber) "__init__" = some (some (.ref Z.f_BadNumber_init))
  tx_BadNumber : PySem.W.typeIn K (.ref Z.f_BadNumber_init) = some (.type "function")
  nx_BadNumber_n : PySem.W.findIn K (.ref Z.c_BadNumber) "n" = some none
  em_BadNumber_BadSum : PySem.W.exmOne K (.ref Z.c_BadNumber) (.ref Z.c_BadSum) = some false
  em_BadNumber_BadBase : PySem.W.exmOne K (.ref Z.c_BadNumber) (.ref Z.c_BadBase) = some false
  em_BadNumber_BadTake : PySem.W.exmOne K (.ref Z.c_BadNumber) (.ref Z.c_BadTake) = some false
  em_BadNumber_BadWeights : PySem.W.exmOne K (.ref Z.c_BadNumber) (.ref Z.c_BadWeights) = some false
  ox_BadDivisor : OexC K Z.c_BadDivisor
  xf_BadDivisor : XfC K Z.c_BadDivisor
  ix_BadDivisor : PySem.W.findIn K (.ref Z.c_BadDivisor) "__init__" = some (some (.ref Z.f_BadDivisor_init))
  tx_BadDivisor : PySem.W.typeIn K (.ref Z.f_BadDivisor_init) = some (.type "function")
  em_BadDivisor_BadSum : PySem.W.exmOne K (.ref Z.c_BadDivisor) (.ref Z.c_BadSum) = some false
  em_BadDivisor_BadBase : PySem.W.exmOne K (.ref Z.c_BadDivisor) (.ref Z.c_BadBase) = some false
  em_BadDivisor_BadTake : PySem.W.exmOne K (.ref Z.c_BadDivisor) (.ref Z.c_BadTake) = some false
  em_BadDivisor_BadWeights : PySem.W.exmOne K (.ref Z.c_BadDivisor) (.ref Z.c_BadWeights) = some false
  ox_BadWeights : OexC K Z.c_BadWeights
  xf_BadWeights : XfC K Z.c_BadWeights
  ix_BadWeights : PySem.W.findIn K (.ref Z.c_BadWeights) "__init__" = some (some (.ref Z.f_BadWeights_init))
  tx_BadWeights : PySem.W.typeIn K (.ref Z.f_BadWeights_init) = some (.type "function")
  nx_BadWeights_index : PySem.W.findIn K (.ref Z.c_BadWeights) "index" = some none
  em_BadWeights_BadSum : PySem.W.exmOne K (.ref Z.c_BadWeights) (.ref Z.c_BadSum) = some false
  em_BadWeights_BadBase : PySem.W.exmOne K (.ref Z.c_BadWeights) (.ref Z.c_BadBase) = some false
  em_BadWeights_BadTake : PySem.W.exmOne K (.ref Z.c_BadWeights) (.ref Z.c_BadTake) = some false
  em_BadWeights_BadWeights : PySem.W.exmOne K (.ref Z.c_BadWeights) (.ref Z.c_BadWeights) = some true
  ox_BadSum : OexC K Z.c_BadSum
  xf_BadSum : XfC K Z.c_BadSum
  ix_BadSum : PySem.W.findIn K (.ref Z.c_BadSum) "__init__" = some (some (.ref Z.f_BadSum_init))
  tx_BadSum : PySem.W.typeIn K (.ref Z.f_BadSum_init) = some (.type "function")
  em_BadSum_BadSum : PySem.W.exmOne K (.ref Z.c_BadSum) (.ref Z.c_BadSum) = some true
  em_BadSum_BadBase : PySem.W.exmOne K (.ref Z.c_BadSum) (.ref Z.c_BadBase) = some false
  em_BadSum_BadTake : PySem.W.exmOne K (.ref Z.c_BadSum) (.ref Z.c_BadTake) = some false
  em_BadSum_BadWeights : PySem.W.exmOne K (.ref Z.c_BadSum) (.ref Z.c_BadWeights) = some false
  v_LEAST_BASE : ∃ t, mg "LEAST_BASE" = some (.int (2) t)
  v_MOST_BASE : ∃ t, mg "MOST_BASE" = some (.int (16) t)
  v_MOST_NUMBER : ∃ t, mg "MOST_NUMBER" = some (.int (10000000000000000000000000000000000000000) t)
  v_MOST_TAKE : ∃ t, mg "MOST_TAKE" = some (.int (2) t)
  v_MOST_WEIGHT : ∃ t, mg "MOST_WEIGHT" = some (.int (1000000) t)
  v_MOST_WEIGHTS : ∃ t, mg "MOST_WEIGHTS" = some (.int (12) t)
  v_MOST_SUM_DIVISOR : ∃ t, mg "MOST_SUM_DIVISOR" = some (.int (30) t)
  n_isinstance : mg "isinstance" = none
  n_int : mg "int" = none
  n_bool : mg "bool" = none
  n_range : mg "range" = none
  n_enumerate : mg "enumerate" = none
  n_tuple : mg "tuple" = none
  n_len : mg "len" = none
  n_list : mg "list" = none
section
variable {P : Program} {w : World} {K : Frag} {mg : Str → Option Value} {base : Heap} {Z : Adr}

/-! ### BadBase_init -/
theorem ok_BadBase_init (T : Txt K mg Z) : FnOk P w K mg base CX0 1 Z.f_BadBase_init Z.d_BadBase_init p_BadBase_init (sp_exc0 Z.c_BadBase) := by
  refine T.F_BadBase_init.ok sc_BadBase_init (fun vs H Q E h => ?_) (fun cdv A outer s H vs Q E hr h => ?_)
  · obtain ⟨_, rfl, _⟩ := h; rfl
  · obtain ⟨a, rfl, ha, h⟩ := h
    refine ⟨_, (pss_one (ps_expr (pe_oeinit rfl T.g_TrickError T.oi_TrickError (pa_cons (pv 0) (pa_cons pe_str pa_nil))))), ?_⟩
    walk_at "g"
    refine ⟨a, _, _, rfl, (by show 1 ≤ 1000; decide), T.ox_BadBase, ha, ?_⟩
    walk_at "g"
    exact h

/-! ### BadTake_init -/
theorem ok_BadTake_init (T : Txt K mg Z) : FnOk P w K mg base CX0 1 Z.f_BadTake_init Z.d_BadTake_init p_BadTake_init (sp_exc0 Z.c_BadTake) := by
  refine T.F_BadTake_init.ok sc_BadTake_init (fun vs H Q E h => ?_) (fun cdv A outer s H vs Q E hr h => ?_)
  · obtain ⟨_, rfl, _⟩ := h; rfl
  · obtain ⟨a, rfl, ha, h⟩ := h
    refine ⟨_, (pss_one (ps_expr (pe_oeinit rfl T.g_TrickError T.oi_TrickError (pa_cons (pv 0) (pa_cons pe_str pa_nil))))), ?_⟩
    walk_at "g"
    refine ⟨a, _, _, rfl, (by show 1 ≤ 1000; decide), T.ox_BadTake, ha, ?_⟩
    walk_at "g"
    exact h

/-! ### BadNumber_init -/
theorem ok_BadNumber_init (T : Txt K mg Z) : FnOk P w K mg base CX0 1 Z.f_BadNumber_init Z.d_BadNumber_init p_BadNumber_init (sp_exc1 Z.c_BadNumber "n") := by
  refine T.F_BadNumber_init.ok sc_BadNumber_init (fun vs H Q E h => ?_) (fun cdv A outer s H vs Q E hr h => ?_)
  · obtain ⟨_, _, rfl, _⟩ := h; rfl
  · obtain ⟨a, v, rfl, ha, h⟩ := h
    refine ⟨_, (pss_cons (ps_expr (pe_oeinit rfl T.g_TrickError T.oi_TrickError (pa_cons (pv 0) (pa_cons pe_str pa_nil))))
    (pss_one (ps_ost (pv 0) (pv 1)))), ?_⟩
    walk_at "g"
    refine ⟨a, _, _, rfl, (by show 1 ≤ 1000; decide), T.ox_BadNumber, ha, ?_⟩
    walk_at "g"
    refine ⟨a, _, rfl, T.ox_BadNumber, T.nx_BadNumber_n, .inl ⟨ha, fun dx h1 h2 => ?_⟩⟩
    walk_at "g"
    exact h dx h1 h2

/-! ### BadDivisor_init -/
theorem ok_BadDivisor_init (T : Txt K mg Z) : FnOk P w K mg base CX0 1 Z.f_BadDivisor_init Z.d_BadDivisor_init p_BadDivisor_init (sp_exc0 Z.c_BadDivisor) := by
  refine T.F_BadDivisor_init.ok sc_BadDivisor_init (fun vs H Q E h => ?_) (fun cdv A outer s H vs Q E hr h => ?_)
  · obtain ⟨_, rfl, _⟩ := h; rfl
  · obtain ⟨a, rfl, ha, h⟩ := h
    refine ⟨_, (pss_one (ps_expr (pe_oeinit rfl T.g_TrickError T.oi_TrickError (pa_cons (pv 0) (pa_cons pe_str pa_nil))))), ?_⟩
    walk_at "g"
    refine ⟨a, _, _, rfl, (by show 1 ≤ 1000; decide), T.ox_BadDivisor, ha, ?_⟩
    walk_at "g"
    exact h

/-! ### BadWeights_init -/
theorem ok_BadWeights_init (T : Txt K mg Z) : FnOk P w K mg base CX0 1 Z.f_BadWeights_init Z.d_BadWeights_init p_BadWeights_init (sp_exc1 Z.c_BadWeights "index") := by
  refine T.F_BadWeights_init.ok sc_BadWeights_init (fun vs H Q E h => ?_) (fun cdv A outer s H vs Q E hr h => ?_)
  · obtain ⟨_, _, rfl, _⟩ := h; rfl
  · obtain ⟨a, v, rfl, ha, h⟩ := h
    refine ⟨_, (pss_cons (ps_expr (pe_oeinit rfl T.g_TrickError T.oi_TrickError (pa_cons (pv 0) (pa_cons pe_str pa_nil))))
    (pss_one (ps_ost (pv 0) (pv 1)))), ?_⟩
    walk_at "g"
    refine ⟨a, _, _, rfl, (by show 1 ≤ 1000; decide), T.ox_BadWeights, ha, ?_⟩
    walk_at "g"
    refine ⟨a, _, rfl, T.ox_BadWeights, T.nx_BadWeights_index, .inl ⟨ha, fun dx h1 h2 => ?_⟩⟩
    walk_at "g"
    exact h dx h1 h2

/-! ### BadSum_init -/
theorem ok_BadSum_init (T : Txt K mg Z) : FnOk P w K mg base CX0 1 Z.f_BadSum_init Z.d_BadSum_init p_BadSum_init (sp_exc0 Z.c_BadSum) := by
  refine T.F_BadSum_init.ok sc_BadSum_init (fun vs H Q E h => ?_) (fun cdv A outer s H vs Q E hr h => ?_)
  · obtain ⟨_, rfl, _⟩ := h; rfl
  · obtain ⟨a, rfl, ha, h⟩ := h
    refine ⟨_, (pss_one (ps_expr (pe_oeinit rfl T.g_TrickError T.oi_TrickError (pa_cons (pv 0) (pa_cons pe_str pa_nil))))), ?_⟩
    walk_at "g"
    refine ⟨a, _, _, rfl, (by show 1 ≤ 1000; decide), T.ox_BadSum, ha, ?_⟩
    walk_at "g"
    exact h

/-! ### is_from -/
def sp_is_from (K : Frag) : Sp := fun vs H Q _ => ∃ i lo hi : Int, vs = [.int i, .int lo, .int hi] ∧ Q (.bl (decide (lo ≤ i) && decide (i ≤ hi))) H
theorem use_is_from {K : Frag} {i lo hi : Int} {H : Hp} {Q : VK} {E : XK} (h : Q (.bl (decide (lo ≤ i) && decide (i ≤ hi))) H) : sp_is_from K ([.int i, .int lo, .int hi] ++ []) H Q E := ⟨_, _, _, rfl, h⟩
theorem ok_is_from (T : Txt K mg Z) : FnOk P w K mg base CX0 1 Z.f_is_from Z.d_is_from p_is_from (sp_is_from K) := by
  refine T.F_is_from.ok sc_is_from (fun vs H Q E h => ?_) (fun cdv A outer s H vs Q E hr h => ?_)
  · obtain ⟨_, _, _, rfl, _⟩ := h; rfl
  · obtain ⟨i, lo, hi, rfl, h⟩ := h
    refine ⟨_, (pss_one (ps_ret (pe_and (pe_callB (r := rIsi K) call_isi (by rfl) T.n_isinstance boot_isinstance (pa_cons (pv 0) (pa_cons (pe_bltn (v := .ty "int") (by rfl) T.n_int boot_int rfl) pa_nil))) (pe_and (pe_not (pe_callB (r := rIsi K) call_isi (by rfl) T.n_isinstance boot_isinstance (pa_cons (pv 0) (pa_cons (pe_bltn (v := .ty "bool") (by rfl) T.n_bool boot_bool rfl) pa_nil)))) (pe_one (pe_chain op_le op_le (pv 1) (pv 0) (pv 2))))))), ?_⟩
    walk_at "g"
    refine a_it2 (fun c => ?_) (fun c => ?_)
    · walk_at "g"
      rw [decide_eq_true c, Bool.true_and] at h; exact h
    · rw [decide_eq_false c] at h; exact h
-- @USE
local macro_rules | `(tactic| walk_at "c") => `(tactic| with_reducible refine use_is_from ?_)

/-! ### is_from_x -/
def sp_x_is_from (K : Frag) : Sp := fun vs H Q _ => ∃ (v : V) (lo hi : Int), vs = [v, .int lo, .int hi] ∧ ((Odd K H v ∧ Q (.bl false) H) ∨ ∃ i, v = .int i ∧ Q (.bl (decide (lo ≤ i) && decide (i ≤ hi))) H)
theorem use_x_is_from {K : Frag} {v : V} {lo hi : Int} {H : Hp} {Q : VK} {E : XK} (h : OutR K H v lo hi) (q : Q (.bl false) H) : sp_x_is_from K ([v, .int lo, .int hi] ++ []) H Q E := by
  refine ⟨v, lo, hi, rfl, ?_⟩
  rcases h with h | ⟨i, rfl, n⟩
  · exact .inl ⟨h, q⟩
  · refine .inr ⟨i, rfl, ?_⟩
    by_cases c : lo ≤ i
    · rw [decide_eq_true c, decide_eq_false (fun z => n ⟨c, z⟩)]; exact q
    · rw [decide_eq_false c]; exact q
theorem use_x_is_from_int {K : Frag} {i lo hi : Int} {H : Hp} {Q : VK} {E : XK} (q : Q (.bl (decide (lo ≤ i) && decide (i ≤ hi))) H) : sp_x_is_from K ([.int i, .int lo, .int hi] ++ []) H Q E := ⟨_, lo, hi, rfl, .inr ⟨i, rfl, q⟩⟩
theorem use_x_is_from_ok {K : Frag} {i lo hi : Int} {H : Hp} {Q : VK} {E : XK} (h : lo ≤ i ∧ i ≤ hi) (q : Q (.bl true) H) : sp_x_is_from K ([.int i, .int lo, .int hi] ++ []) H Q E :=
  ⟨_, lo, hi, rfl, .inr ⟨i, rfl, by rw [decide_eq_true h.1, decide_eq_true h.2]; exact q⟩⟩
theorem okX_is_from (T : Txt K mg Z) : FnOk P w K mg base CX0 1 Z.f_is_from Z.d_is_from p_is_from (sp_x_is_from K) := by
  refine T.F_is_from.ok sc_is_from (fun vs H Q E h => ?_) (fun cdv A outer s H vs Q E hr h => ?_)
  · obtain ⟨_, _, _, rfl, _⟩ := h; rfl
  · obtain ⟨v, lo, hi, rfl, h⟩ := h
    refine ⟨_, (pss_one (ps_ret (pe_and (pe_callB (r := rIsi K) call_isi (by rfl) T.n_isinstance boot_isinstance (pa_cons (pv 0) (pa_cons (pe_bltn (v := .ty "int") (by rfl) T.n_int boot_int rfl) pa_nil))) (pe_and (pe_not (pe_callB (r := rIsi K) call_isi (by rfl) T.n_isinstance boot_isinstance (pa_cons (pv 0) (pa_cons (pe_bltn (v := .ty "bool") (by rfl) T.n_bool boot_bool rfl) pa_nil)))) (pe_one (pe_chain op_le op_le (pv 1) (pv 0) (pv 2))))))), ?_⟩
    rcases h with ⟨o, h⟩ | ⟨i, rfl, h⟩
    · by_cases hb : ∃ b, v = .bl b
      · obtain ⟨b, rfl⟩ := hb
        walk_at "g"
        refine a_isiBI ?_
        walk_at "g"
        refine a_isiBB ?_
        walk_at "g"
        exact h
      · walk_at "g"
        refine a_isiO o (fun b e => hb ⟨b, e⟩) ?_
        walk_at "g"
        exact h
    · walk_at "g"
      refine a_it2 (fun c => ?_) (fun c => ?_)
      · walk_at "g"
        rw [decide_eq_true c, Bool.true_and] at h; exact h
      · rw [decide_eq_false c] at h; exact h

/-! ### need_base -/
def sp_need_base : Sp := fun vs H Q _ => ∃ b : Int, vs = [.int b] ∧ 2 ≤ b ∧ b ≤ 16 ∧ Q .non H
theorem use_need_base {b : Int} {H : Hp} {Q : VK} {E : XK} (h1 : 2 ≤ b) (h2 : b ≤ 16) (h : Q .non H) : sp_need_base ([.int b] ++ []) H Q E := ⟨_, rfl, h1, h2, h⟩
theorem ok_need_base (T : Txt K mg Z) : FnOk P w K mg base CX0 2 Z.f_need_base Z.d_need_base p_need_base sp_need_base := by
  refine T.F_need_base.ok sc_need_base (fun vs H Q E h => ?_) (fun cdv A outer s H vs Q E hr h => ?_)
  · obtain ⟨_, rfl, _⟩ := h; rfl
  · obtain ⟨b, rfl, h1, h2, h⟩ := h
    refine ⟨_, (pss_one (ps_if (pt_not (pt_val (pe_call (ok_is_from T) (hr.mono (by decide)) rfl T.g_is_from T.F_is_from.kp T.b_is_from .nil pass0 (pa_cons (pv 0) (pa_cons (pe_globI rfl T.v_LEAST_BASE) (pa_cons (pe_globI rfl T.v_MOST_BASE) pa_nil)))))) (pss_one ps_never) pss_nil)), ?_⟩
    walk_at "g"
    exact h
-- @USE
local macro_rules | `(tactic| walk_at "c") => `(tactic| ((with_reducible refine use_need_base ?h1 ?h2 ?h3); (case h1 => omega); (case h2 => omega)))

/-! ### need_base_x -/
def sp_x_need_base (K : Frag) (Z : Adr) : Sp := fun vs H _ E => ∃ v, vs = [v] ∧ OutR K H v 2 16 ∧ E (.ref Z.c_BadBase) none H
theorem okX_need_base (T : Txt K mg Z) : FnOk P w K mg base (L2.CX P w) 3 Z.f_need_base Z.d_need_base p_need_base (sp_x_need_base K Z) := by
  refine T.F_need_base.okX sc_need_base (fun vs H Q E h => ?_) (fun cdv A outer s H vs Q E hr h => ?_)
  · obtain ⟨_, rfl, _⟩ := h; rfl
  · obtain ⟨v, rfl, hv, h⟩ := h
    refine ⟨_, (pss_one (ps_if (pt_not (pt_val (pe_call (okX_is_from T) (hr.mono (by decide)) rfl T.g_is_from T.F_is_from.kp T.b_is_from .nil pass0 (pa_cons (pv 0) (pa_cons (pe_globI rfl T.v_LEAST_BASE) (pa_cons (pe_globI rfl T.v_MOST_BASE) pa_nil)))))) (pss_one (ps_raise0 rfl (takes_of rfl rfl rfl rfl) T.ox_BadBase T.ix_BadBase T.tx_BadBase (ok_BadBase_init T) (hr.mono (by decide)) T.b_BadBase_init rfl T.g_BadBase)) pss_nil)), ?_⟩
    walk_at "g"
    refine use_x_is_from hv ?_
    walk_at "g"
    exact h

/-! ### need_divisor_x -/
def sp_x_need_divisor (K : Frag) (Z : Adr) : Sp := fun vs H _ E => ∃ (v : V) (m : Int), vs = [v, .int m] ∧ OutR K H v 1 m ∧ E (.ref Z.c_BadDivisor) none H
theorem okX_need_divisor (T : Txt K mg Z) : FnOk P w K mg base (L2.CX P w) 3 Z.f_need_divisor Z.d_need_divisor p_need_divisor (sp_x_need_divisor K Z) := by
  refine T.F_need_divisor.okX sc_need_divisor (fun vs H Q E h => ?_) (fun cdv A outer s H vs Q E hr h => ?_)
  · obtain ⟨_, _, rfl, _⟩ := h; rfl
  · obtain ⟨v, m, rfl, hv, h⟩ := h
    refine ⟨_, (pss_one (ps_if (pt_not (pt_val (pe_call (okX_is_from T) (hr.mono (by decide)) rfl T.g_is_from T.F_is_from.kp T.b_is_from .nil pass0 (pa_cons (pv 0) (pa_cons pe_int (pa_cons (pv 1) pa_nil)))))) (pss_one (ps_raise0 rfl (takes_of rfl rfl rfl rfl) T.ox_BadDivisor T.ix_BadDivisor T.tx_BadDivisor (ok_BadDivisor_init T) (hr.mono (by decide)) T.b_BadDivisor_init rfl T.g_BadDivisor)) pss_nil)), ?_⟩
    walk_at "g"
    refine use_x_is_from hv ?_
    walk_at "g"
    exact h

/-! ### power -/
def sp_power : Sp := fun vs H Q _ => ∃ b m : Int, vs = [.int b, .int m] ∧ -(2 ^ 62) ≤ m ∧ m < 2 ^ 62 ∧ -(2 ^ 64) < b ∧ b < 2 ^ 64 ∧ Q (.int (b ^ m.toNat)) H
theorem use_power {b m : Int} {H : Hp} {Q : VK} {E : XK} (h1 : -(2 ^ 62) ≤ m ∧ m < 2 ^ 62 ∧ -(2 ^ 64) < b ∧ b < 2 ^ 64) (h : Q (.int (b ^ m.toNat)) H) : sp_power ([.int b, .int m] ++ []) H Q E := ⟨_, _, rfl, h1.1, h1.2.1, h1.2.2.1, h1.2.2.2, h⟩
theorem ok_power (T : Txt K mg Z) : FnOk P w K mg base CX0 1 Z.f_power Z.d_power p_power sp_power := by
  refine T.F_power.ok sc_power (fun vs H Q E h => ?_) (fun cdv A outer s H vs Q E hr h => ?_)
  · obtain ⟨_, _, rfl, _⟩ := h; rfl
  · obtain ⟨b, m, rfl, h1, h2, h3, h4, h⟩ := h
    refine ⟨_, (pss_cons (ps_set (i := 2) sc_power.nd rfl (Or.inl rfl) pe_int)
    (pss_cons (ps_for PassesOwn.never rfl (pi_range1 rfl T.n_range (pa_cons (pv 1) pa_nil)) (pg_name (i := 3) sc_power.nd rfl (Or.inl rfl))
    (pss_one (ps_set (i := 2) sc_power.nd rfl (Or.inl rfl) (pe_op op_mulX (pv 2) (pv 0)))))
    (pss_one (ps_ret (pv 2))))), ?_⟩
    walk_at "g"
    refine for_range (fun i σ H' => H' = H ∧ ∃ v, σ = [some (.int b), some (.int m), some (.int (b ^ i)), v]) ⟨rfl, none, by rw [Int.pow_zero]; rfl⟩ ?_ ?_
    · rintro i σ H' hi ⟨rfl, v, rfl⟩
      walk_at "g"
      exact ⟨rfl, _, by rw [Int.pow_succ]; rfl⟩
    · rintro σ H' ⟨rfl, v, rfl⟩
      walk_at "g"
      exact h
-- @USE
local macro_rules | `(tactic| walk_at "c") => `(tactic| ((with_reducible refine use_power ?h1 ?h2); (case h1 => omega)))

/-! ### need_weights -/
def sp_need_weights : Sp := fun vs H Q _ => ∃ (p : Addr) (ws : List Int) (m : Int), vs = [.ref p, .int m] ∧ H p = some (.tup (ws.map V.int)) ∧ m ≤ ws.length ∧ ws.length ≤ 12 ∧ (∀ w ∈ ws, -(10 ^ 6) ≤ w ∧ w ≤ 10 ^ 6) ∧ ∀ H', Same H H' → Q .non H'
theorem ok_need_weights (T : Txt K mg Z) : FnOk P w K mg base CX0 2 Z.f_need_weights Z.d_need_weights p_need_weights sp_need_weights := by
  refine T.F_need_weights.ok sc_need_weights (fun vs H Q E h => ?_) (fun cdv A outer s H vs Q E hr h => ?_)
  · obtain ⟨_, _, _, rfl, _⟩ := h; rfl
  · obtain ⟨p, ws, m, rfl, hp, hm, hl, hw, h⟩ := h
    have O := Own.refl H
    refine ⟨_, (pss_cons (ps_if (PW.pt (pw_or (pt_not (pt_val (pe_callB (r := rIsi K) call_isi (by rfl) T.n_isinstance boot_isinstance (pa_cons (pv 0) (pa_cons (pe_bltn (v := .ty "tuple") (by rfl) T.n_tuple boot_tuple rfl) pa_nil))))) (pw_or1 (pt_not (pt_chain op_le op_le (pv 1) (pe_callB (r := R.rLen K) call_lenR (by rfl) T.n_len boot_len (pa_cons (pv 0) pa_nil)) (pe_globI rfl T.v_MOST_WEIGHTS)))))) (pss_one ps_never) pss_nil)
    (pss_one (ps_for PassesOwn.never rfl (pi_enumT rfl T.n_enumerate (pa_cons (pv 0) pa_nil)) (pg_tup rfl (pgs_cons (pg_name (i := 2) sc_need_weights.nd rfl (Or.inl rfl)) (pgs_cons (pg_name (i := 3) sc_need_weights.nd rfl (Or.inl rfl)) pgs_nil)))
    (pss_one (ps_if (pt_not (pt_val (pe_call (ok_is_from T) (hr.mono (by decide)) rfl T.g_is_from T.F_is_from.kp T.b_is_from .nil pass0 (pa_cons (pv 3) (pa_cons (pe_un un_neg (pe_globI rfl T.v_MOST_WEIGHT)) (pa_cons (pe_globI rfl T.v_MOST_WEIGHT) pa_nil)))))) (pss_one ps_never) pss_nil))))), ?_⟩
    walk_at "g"
    refine ⟨_, _, .type "tuple", .type "tuple", true, rfl, .ty _, .base (.tup hp), kit_ty (by decide +kernel), ?_⟩
    walk_at "g"
    refine a_len (.inr (SqT.of hp)) ?_
    rw [List.length_map]
    walk_at "g"
    refine ⟨p, _, rfl, SqT.of hp, ?_⟩
    refine for_it walk_enumT (fun i σ H' => ∃ v2 v3 Lw, σ = [some (.ref p), some (.int m), v2, v3] ∧ Own H Lw H') ⟨_, _, _, rfl, O⟩ (fun i σ H' _ ⟨_, _, _, _, O⟩ => SqT.of (O.st _ _ hp)) ?_ ?_
    · clear O
      rintro i v σ H' H'' hi ⟨v2, v3, Lw, rfl, O⟩ ⟨t, y1, y2, rfl, ht, rfl, e1, e2⟩
      rw [List.length_map] at hi
      have O := Own.new (o := .tup [y1, y2]) O ht
      have e1 : y1 = .int i := (Option.some.inj e1).symm
      have e2 : (ws.map V.int)[i]? = some y2 := e2
      have e2 : y2 = .int (ws[i]'hi) := by
        rw [List.getElem?_map, List.getElem?_eq_getElem hi] at e2
        exact (Option.some.inj e2).symm
      subst e1 e2
      have hy := hw _ (List.getElem_mem hi)
      walk_at "g"
      exact ⟨_, _, _, rfl, O⟩
    · clear O
      rintro σ H' ⟨v2, v3, Lw, rfl, O⟩
      walk_at "g"
      exact h _ O.toSame

/-! ### need_weights_x -/
def WOk (x : V) : Prop := ∃ i, x = .int i ∧ -(10 ^ 6) ≤ i ∧ i ≤ 10 ^ 6
/-- no weights: at r -/
def WBad (K : Frag) (H : Hp) (v : V) (m : Nat) (r : V) : Prop := (NoTup K H v m 12 ∧ r = .non) ∨
  ∃ (p : Addr) (xs : List V) (n : Nat) (w : V), v = .ref p ∧ H p = some (.tup xs) ∧ (m ≤ xs.length ∧ xs.length ≤ 12) ∧ WrongAt xs n w WOk ∧ OutR K H w (-(10 ^ 6)) (10 ^ 6) ∧ r = .int (n : Int)
theorem WBad.same {B H : Hp} {v r : V} {m : Nat} (s : Same B H) (h : WBad K B v m r) : WBad K H v m r := by
  rcases h with ⟨h, e⟩ | ⟨p, xs, n, w, e, hp, hl, hw, ho, er⟩
  · exact .inl ⟨h.same s, e⟩
  · exact .inr ⟨p, xs, n, w, e, s _ _ hp, hl, hw, ho.same s, er⟩
def sp_x_need_weights (K : Frag) (Z : Adr) : Sp := fun vs H _ E => ∃ (v r : V) (m : Nat), vs = [v, .int (m : Int)] ∧ WBad K H v m r ∧ ∀ d H1, Same H H1 → H1 d = none → E (.ref Z.c_BadWeights) (some d) (upd H1 d (.xd [("index", r)]))
theorem okX_need_weights (T : Txt K mg Z) : FnOk P w K mg base (L2.CX P w) 3 Z.f_need_weights Z.d_need_weights p_need_weights (sp_x_need_weights K Z) := by
  refine T.F_need_weights.okX sc_need_weights (fun vs H Q E h => ?_) (fun cdv A outer s H vs Q E hr h => ?_)
  · obtain ⟨_, _, _, rfl, _⟩ := h; rfl
  · obtain ⟨v, r, m, rfl, hv, h⟩ := h
    have O := Own.refl H
    rcases hv with ⟨hv, rfl⟩ | ⟨p, xs, n, w', rfl, hp, ⟨hl1, hl2⟩, hw, ho, rfl⟩
    · refine ⟨_, (pss_cons (ps_if (PW.pt (pw_or (pt_not (pt_val (pe_callB (r := rIsi K) call_isi (by rfl) T.n_isinstance boot_isinstance (pa_cons (pv 0) (pa_cons (pe_bltn (v := .ty "tuple") (by rfl) T.n_tuple boot_tuple rfl) pa_nil))))) (pw_or1 (pt_not (pt_chain op_le op_le (pv 1) (pe_callB (r := R.rLen K) call_lenR (by rfl) T.n_len boot_len (pa_cons (pv 0) pa_nil)) (pe_globI rfl T.v_MOST_WEIGHTS)))))) (pss_one (ps_raise1 rfl (takes_of rfl rfl rfl rfl) T.ox_BadWeights T.ix_BadWeights T.tx_BadWeights (ok_BadWeights_init T) (hr.mono (by decide)) T.b_BadWeights_init rfl T.g_BadWeights (pa_cons pe_non pa_nil))) pss_nil)
    pss_never), ?_⟩
      rcases hv with hv | ⟨p, xs, rfl, hp, hn⟩
      · walk_at "g"
        refine a_isiNT hv ?_
        walk_at "g"
        exact fun d hd => h d _ O.st hd
      · have hpT : SqT K H p xs := SqT.of hp
        walk_at "g"
        refine a_isiT1 hp ?_
        walk_at "g"
        refine a_it2 (fun c => ?_) (fun c => ?_)
        · walk_at "g"
          exact fun d hd => h d _ O.st hd
        · walk_at "g"
          exact fun d hd => h d _ O.st hd
    · have hpT : SqT K H p xs := SqT.of hp
      refine ⟨_, (pss_cons (ps_if (PW.pt (pw_or (pt_not (pt_val (pe_callB (r := rIsi K) call_isi (by rfl) T.n_isinstance boot_isinstance (pa_cons (pv 0) (pa_cons (pe_bltn (v := .ty "tuple") (by rfl) T.n_tuple boot_tuple rfl) pa_nil))))) (pw_or1 (pt_not (pt_chain op_le op_le (pv 1) (pe_callB (r := R.rLen K) call_lenR (by rfl) T.n_len boot_len (pa_cons (pv 0) pa_nil)) (pe_globI rfl T.v_MOST_WEIGHTS)))))) (pss_one ps_never) pss_nil)
    (pss_one (ps_for (passes_of rfl) rfl (pi_enumT rfl T.n_enumerate (pa_cons (pv 0) pa_nil)) (pg_tup rfl (pgs_cons (pg_name (i := 2) sc_need_weights.nd rfl (Or.inl rfl)) (pgs_cons (pg_name (i := 3) sc_need_weights.nd rfl (Or.inl rfl)) pgs_nil)))
    (pss_one (ps_if (pt_not (pt_val (pe_call (okX_is_from T) (hr.mono (by decide)) rfl T.g_is_from T.F_is_from.kp T.b_is_from .nil pass0 (pa_cons (pv 3) (pa_cons (pe_un un_neg (pe_globI rfl T.v_MOST_WEIGHT)) (pa_cons (pe_globI rfl T.v_MOST_WEIGHT) pa_nil)))))) (pss_one (ps_raise1 rfl (takes_of rfl rfl rfl rfl) T.ox_BadWeights T.ix_BadWeights T.tx_BadWeights (ok_BadWeights_init T) (hr.mono (by decide)) T.b_BadWeights_init rfl T.g_BadWeights (pa_cons (pv 2) pa_nil))) pss_nil))))), ?_⟩
      walk_at "g"
      refine a_isiT1 hp ?_
      walk_at "g"
      refine ⟨p, _, rfl, SqT.of hp, ?_⟩
      refine for_it walk_enumT (fun i σ H' => i ≤ n ∧ ∃ v2 v3 Lw, σ = [some (.ref p), some (.int (m : Int)), v2, v3] ∧ Own H Lw H') ⟨Nat.zero_le _, _, _, _, rfl, O⟩ (fun i σ H' _ ⟨_, _, _, _, _, O⟩ => SqT.of (O.st _ _ hp)) ?_ ?_
      · clear O
        rintro i v σ H' H'' hi ⟨hin, v2, v3, Lw, rfl, O⟩ ⟨t, y1, y2, rfl, ht, rfl, e1, e2⟩
        have O := Own.new (o := .tup [y1, y2]) O ht
        have e1 : y1 = .int i := (Option.some.inj e1).symm
        have e2 : xs[i]? = some y2 := e2
        subst e1
        walk_at "g"
        by_cases c : i < n
        · obtain ⟨y, rfl, c1, c2⟩ := hw.2 i y2 c e2
          walk_at "g"
          refine use_x_is_from_ok ⟨c1, c2⟩ ?_
          walk_at "g"
          exact ⟨by omega, _, _, _, rfl, O⟩
        · have e : i = n := by omega
          subst e
          rw [hw.1] at e2
          cases e2
          refine use_x_is_from (ho.same O.st) ?_
          walk_at "g"
          exact fun d hd => h d _ O.st hd
      · rintro σ H' ⟨hin, _⟩
        exact absurd (List.getElem?_eq_some_iff.mp hw.1).1 (by omega)

/-! ### Sum_init -/
-- @NEEDS need_base need_weights power is_from
/-- the fields of a sum -/
def sumF (b k : Int) (p1 p2 : Addr) : List (Str × V) := [("basis", .int b), ("many", .int k), ("begun", .ref p1), ("again", .ref p2), ("block", .int (b ^ k.toNat))]
def SumAt (Z : Adr) (H : Hp) (a : Addr) (b k : Int) (f l : List Int) : Prop := SumOk b k f l ∧ ∃ dx p1 p2, H a = some (.ins Z.c_Sum dx (sumF b k p1 p2)) ∧ H p1 = some (.tup (f.map V.int)) ∧ H p2 = some (.tup (l.map V.int))
theorem SumAt.same {B H : Hp} {a : Addr} {b k : Int} {f l : List Int} (s : Same B H) (h : SumAt Z B a b k f l) : SumAt Z H a b k f l := by
  obtain ⟨h1, dx, p1, p2, h2, h3, h4⟩ := h
  exact ⟨h1, dx, p1, p2, s _ _ h2, s _ _ h3, s _ _ h4⟩
theorem blockS {b k : Int} (hb : 2 ≤ b ∧ b ≤ 16) (hk : 1 ≤ k ∧ k ≤ 2) : 2 ≤ b ^ k.toNat ∧ b ^ k.toNat ≤ 256 := by
  have e : k = 1 ∨ k = 2 := by omega
  rcases e with rfl | rfl
  · have z : b ^ (1 : Int).toNat = b := by rw [show (1 : Int).toNat = 1 from rfl, Int.pow_succ, Int.pow_zero, Int.one_mul]
    rw [z]; omega
  · have z : b ^ (2 : Int).toNat = b * b := by rw [show (2 : Int).toNat = 2 from rfl, Int.pow_succ, Int.pow_succ, Int.pow_zero, Int.one_mul]
    rw [z]
    have h1 : b * 2 ≤ b * b := Int.mul_le_mul_of_nonneg_left hb.1 (by omega)
    have h2 : b * b ≤ 16 * 16 := Int.mul_le_mul hb.2 hb.2 (by omega) (by omega)
    omega
def sp_Sum_init (C : Addr) : Sp := fun vs H Q _ => ∃ (x dx p1 p2 : Addr) (b k : Int) (f l : List Int), vs = [.ref x, .int b, .int k, .ref p1, .ref p2] ∧ H x = some (.ins C dx []) ∧ SumOk b k f l ∧ (del1 H x) p1 = some (.tup (f.map V.int)) ∧ (del1 H x) p2 = some (.tup (l.map V.int)) ∧
  ∀ H', (∀ q v, q ≠ x → H q = some v → H' q = some v) → H' x = some (.ins C dx (sumF b k p1 p2)) → Q .non H'
theorem getS_block {H : Hp} {a : Addr} {b k : Int} {f l : List Int} {Q : VK} (T : Txt K mg Z) (h : SumAt Z H a b k f l) (q : Q (.int (b ^ k.toNat)) H) : rFld K "block" (.ref a) H Q := by
  obtain ⟨_, dx, p1, p2, h, _⟩ := h
  refine a_getF h T.cl_Sum T.nf_Sum_block ?_ q
  unfold sumF
  rw [lk_ne (by decide +kernel), lk_ne (by decide +kernel), lk_ne (by decide +kernel), lk_ne (by decide +kernel), lk_eq]
theorem getS_begun {H : Hp} {a : Addr} {b k : Int} {f l : List Int} {Q : VK} (T : Txt K mg Z) (h : SumAt Z H a b k f l) (q : ∀ p1, SqT K H p1 (f.map V.int) → Q (.ref p1) H) : rFld K "begun" (.ref a) H Q := by
  obtain ⟨_, dx, p1, p2, h, h1, _⟩ := h
  refine a_getF h T.cl_Sum T.nf_Sum_begun ?_ (q p1 (SqT.of h1))
  unfold sumF
  rw [lk_ne (by decide +kernel), lk_ne (by decide +kernel), lk_eq]
theorem getS_again {H : Hp} {a : Addr} {b k : Int} {f l : List Int} {Q : VK} (T : Txt K mg Z) (h : SumAt Z H a b k f l) (q : ∀ p2, SqT K H p2 (l.map V.int) → Q (.ref p2) H) : rFld K "again" (.ref a) H Q := by
  obtain ⟨_, dx, p1, p2, h, _, h2⟩ := h
  refine a_getF h T.cl_Sum T.nf_Sum_again ?_ (q p2 (SqT.of h2))
  unfold sumF
  rw [lk_ne (by decide +kernel), lk_ne (by decide +kernel), lk_ne (by decide +kernel), lk_eq]
theorem a_ixTI {H : Hp} {p : Addr} {ws : List Int} {i : Nat} {Q : VK} (h : SqT K H p (ws.map V.int)) (hi : i < ws.length) (q : Q (.int ((ws[i]?).getD 0)) H) : rIxT K (.ref p) (.int i) H Q := by
  refine a_ixT h (v := .int ((ws[i]?).getD 0)) (atI_nat ?_) q
  rw [List.getElem?_map, List.getElem?_eq_getElem hi]; rfl
theorem use_Sum {B H : Hp} {Lw : List (Addr × HO)} {p1 p2 : Addr} {b k : Int} {f l : List Int} {Q : VK} {E : XK} (O : Own B Lw H) (so : SumOk b k f l) (h1 : H p1 = some (.tup (f.map V.int))) (h2 : H p2 = some (.tup (l.map V.int)))
    (h : ∀ x H', Own B Lw H' → SumAt Z H' x b k f l → Q (.ref x) H') : NewI Z.c_Sum (sp_Sum_init Z.c_Sum) [] E [.int b, .int k, .ref p1, .ref p2] H Q := by
  intro x dx hx hdx ne
  have O1 := Own.new (o := .own x) O hdx
  have hx1 : upd H dx (.own x) x = none := by rw [upd_ne ne.symm]; exact hx
  have O2 := Own.new (o := .ins Z.c_Sum dx []) O1 hx1
  have up : ∀ q v, H q = some v → upd (upd H dx (.own x)) x (.ins Z.c_Sum dx []) q = some v ∧ q ≠ x := fun q v e => by
    have n1 : q ≠ x := fun z => by rw [z, hx] at e; cases e
    have n2 : q ≠ dx := fun z => by rw [z, hdx] at e; cases e
    exact ⟨by rw [upd_ne n1, upd_ne n2]; exact e, n1⟩
  have u1 := up _ _ h1
  have u2 := up _ _ h2
  refine ⟨x, dx, p1, p2, b, k, f, l, rfl, upd_same, so, by rw [del1_ne u1.2]; exact u1.1, by rw [del1_ne u2.2]; exact u2.1, fun H' k1 hx' => ⟨rfl, ?_⟩⟩
  have O3 : Own B ((x, .ins Z.c_Sum dx (sumF b k p1 p2)) :: (dx, .own x) :: Lw) H' := O2.but 0 rfl k1 hx'
  exact h x H' O3.tail.tail ⟨so, dx, p1, p2, hx', k1 _ _ u1.2 u1.1, k1 _ _ u2.2 u2.1⟩
/-- a sum made, owned -/
theorem use_SumO {B H : Hp} {Lw : List (Addr × HO)} {p1 p2 : Addr} {b k : Int} {f l : List Int} {Q : VK} {E : XK} (O : Own B Lw H) (so : SumOk b k f l) (h1 : H p1 = some (.tup (f.map V.int))) (h2 : H p2 = some (.tup (l.map V.int)))
    (h : ∀ x dx H', Own B ((x, .ins Z.c_Sum dx (sumF b k p1 p2)) :: Lw) H' → Q (.ref x) H') : NewI Z.c_Sum (sp_Sum_init Z.c_Sum) [] E [.int b, .int k, .ref p1, .ref p2] H Q := by
  intro x dx hx hdx ne
  have O1 := Own.new (o := .own x) O hdx
  have hx1 : upd H dx (.own x) x = none := by rw [upd_ne ne.symm]; exact hx
  have O2 := Own.new (o := .ins Z.c_Sum dx []) O1 hx1
  have up : ∀ q v, H q = some v → upd (upd H dx (.own x)) x (.ins Z.c_Sum dx []) q = some v ∧ q ≠ x := fun q v e => by
    have n1 : q ≠ x := fun z => by rw [z, hx] at e; cases e
    have n2 : q ≠ dx := fun z => by rw [z, hdx] at e; cases e
    exact ⟨by rw [upd_ne n1, upd_ne n2]; exact e, n1⟩
  have u1 := up _ _ h1
  have u2 := up _ _ h2
  refine ⟨x, dx, p1, p2, b, k, f, l, rfl, upd_same, so, by rw [del1_ne u1.2]; exact u1.1, by rw [del1_ne u2.2]; exact u2.1, fun H' k1 hx' => ⟨rfl, ?_⟩⟩
  have O3 : Own B ((x, .ins Z.c_Sum dx (sumF b k p1 p2)) :: (dx, .own x) :: Lw) H' := O2.but 0 rfl k1 hx'
  exact h x dx H' O3.tail2
theorem sumAt_of {B H : Hp} {Lw : List (Addr × HO)} {x dx p1 p2 : Addr} {b k : Int} {f l : List Int} (so : SumOk b k f l) (O : Own B Lw H) (i j m : Nat) (h : Lw[i]? = some (x, .ins Z.c_Sum dx (sumF b k p1 p2))) (h1 : Lw[j]? = some (p1, .tup (f.map V.int))) (h2 : Lw[m]? = some (p2, .tup (l.map V.int))) : SumAt Z H x b k f l :=
  ⟨so, dx, p1, p2, O.get i h, O.get j h1, O.get m h2⟩
/-- a sum made, in the base -/
theorem use_SumB {B H : Hp} {Lw : List (Addr × HO)} {p1 p2 : Addr} {b k : Int} {f l : List Int} {Q : VK} {E : XK} (O : Own B Lw H) (so : SumOk b k f l) (h1 : B p1 = some (.tup (f.map V.int))) (h2 : B p2 = some (.tup (l.map V.int)))
    (h : ∀ x B' H', Same B B' → Own B' Lw H' → SumAt Z B' x b k f l → (∃ dx, B' x = some (.ins Z.c_Sum dx (sumF b k p1 p2))) → Q (.ref x) H') : NewI Z.c_Sum (sp_Sum_init Z.c_Sum) [] E [.int b, .int k, .ref p1, .ref p2] H Q :=
  use_SumO O so (O.st _ _ h1) (O.st _ _ h2) fun x dx H' O' => h x _ H' O'.fixS O'.fix ⟨so, dx, p1, p2, upd_same, O'.fixS _ _ h1, O'.fixS _ _ h2⟩ ⟨dx, upd_same⟩
theorem ok_Sum_init (T : Txt K mg Z) : FnOk P w K mg base CX0 3 Z.f_Sum_init Z.d_Sum_init p_Sum_init (sp_Sum_init Z.c_Sum) := by
  refine T.F_Sum_init.ok sc_Sum_init (fun vs H Q E h => ?_) (fun cdv A outer s H vs Q E hr h => ?_)
  · obtain ⟨_, _, _, _, _, _, _, _, rfl, _⟩ := h; rfl
  · obtain ⟨x, dx, p1, p2, b, k, f, l, rfl, hx, so, h1, h2, h⟩ := h
    have O := Own.refl1 hx
    have bb := so.hb
    have kk := so.hk
    have ff := so.hf
    have ll := so.hl
    refine ⟨_, (pss_cons (ps_expr (pe_call (ok_need_base T) (hr.mono (by decide)) rfl T.g_need_base T.F_need_base.kp T.b_need_base .nil pass0 (pa_cons (pv 1) pa_nil)))
    (pss_cons (ps_if (pt_not (pt_val (pe_call (ok_is_from T) (hr.mono (by decide)) rfl T.g_is_from T.F_is_from.kp T.b_is_from .nil pass0 (pa_cons (pv 2) (pa_cons pe_int (pa_cons (pe_globI rfl T.v_MOST_TAKE) pa_nil)))))) (pss_one ps_never) pss_nil)
    (pss_cons (ps_expr (pe_call (ok_need_weights T) (hr.mono (by decide)) rfl T.g_need_weights T.F_need_weights.kp T.b_need_weights .nil pass0 (pa_cons (pv 3) (pa_cons pe_int pa_nil))))
    (pss_cons (ps_expr (pe_call (ok_need_weights T) (hr.mono (by decide)) rfl T.g_need_weights T.F_need_weights.kp T.b_need_weights .nil pass0 (pa_cons (pv 4) (pa_cons pe_int pa_nil))))
    (pss_cons (ps_fld (pv 0) (pv 1) rfl)
    (pss_cons (ps_fld (pv 0) (pv 2) rfl)
    (pss_cons (ps_fld (pv 0) (pv 3) rfl)
    (pss_cons (ps_fld (pv 0) (pv 4) rfl)
    (pss_one (ps_fld (pv 0) (pe_call (ok_power T) (hr.mono (by decide)) rfl T.g_power T.F_power.kp T.b_power .nil pass0 (pa_cons (pv 1) (pa_cons (pv 2) pa_nil))) rfl)))))))))), ?_⟩
    have n1 : ¬ ("basis" : Str) = "many" := by decide +kernel
    have n2 : ¬ ("basis" : Str) = "begun" := by decide +kernel
    have n3 : ¬ ("many" : Str) = "begun" := by decide +kernel
    have n4 : ¬ ("basis" : Str) = "again" := by decide +kernel
    have n5 : ¬ ("many" : Str) = "again" := by decide +kernel
    have n6 : ¬ ("begun" : Str) = "again" := by decide +kernel
    have n7 : ¬ ("basis" : Str) = "block" := by decide +kernel
    have n8 : ¬ ("many" : Str) = "block" := by decide +kernel
    have n9 : ¬ ("begun" : Str) = "block" := by decide +kernel
    have n10 : ¬ ("again" : Str) = "block" := by decide +kernel
    walk_at "g"
    refine ⟨p1, f, 0, rfl, O.st _ _ h1, by omega, ff, so.wf, fun H' s => ?_⟩
    replace O := O.same s
    walk_at "g"
    refine ⟨p2, l, 1, rfl, O.st _ _ h2, by omega, ll.2, so.wl, fun H' s => ?_⟩
    replace O := O.same s
    walk_at "g"
    refine a_setF O 0 rfl T.cl_Sum T.nf_Sum_basis (Nat.lt_of_le_of_lt (Nat.le_refl 0) (by decide)) (fun H1 O => ?_)
    simp only [List.set, put_nil] at O
    walk_at "g"
    refine a_setF O 0 rfl T.cl_Sum T.nf_Sum_many (Nat.lt_of_le_of_lt (Nat.le_refl 1) (by decide)) (fun H2 O => ?_)
    simp only [List.set, put_ne n1, put_nil] at O
    walk_at "g"
    refine a_setF O 0 rfl T.cl_Sum T.nf_Sum_begun (Nat.lt_of_le_of_lt (Nat.le_refl 2) (by decide)) (fun H3 O => ?_)
    simp only [List.set, put_ne n2, put_ne n3, put_nil] at O
    walk_at "g"
    refine a_setF O 0 rfl T.cl_Sum T.nf_Sum_again (Nat.lt_of_le_of_lt (Nat.le_refl 3) (by decide)) (fun H4 O => ?_)
    simp only [List.set, put_ne n4, put_ne n5, put_ne n6, put_nil] at O
    walk_at "g"
    refine a_setF O 0 rfl T.cl_Sum T.nf_Sum_block (Nat.lt_of_le_of_lt (Nat.le_refl 4) (by decide)) (fun H5 O => ?_)
    simp only [List.set, put_ne n7, put_ne n8, put_ne n9, put_ne n10, put_nil] at O
    exact h _ (Own.toBut O) (O.get 0 rfl)

/-! ### Sum_init_x -/
-- @NEEDS need_weights_x
inductive SOut where
  | base
  | take
  | at (r : V)
def SBad (K : Frag) (H : Hp) (b k f l : V) (o : SOut) : Prop := (OutR K H b 2 16 ∧ o = .base) ∨ (∃ bi, b = .int bi ∧ (2 ≤ bi ∧ bi ≤ 16) ∧ ((OutR K H k 1 2 ∧ o = .take) ∨
  (∃ ki, k = .int ki ∧ (1 ≤ ki ∧ ki ≤ 2) ∧ ((∃ r, WBad K H f 0 r ∧ o = .at r) ∨ (∃ (p : Addr) (ws : List Int) (r : V), f = .ref p ∧ H p = some (.tup (ws.map V.int)) ∧ ws.length ≤ 12 ∧ (∀ w ∈ ws, -(10 ^ 6) ≤ w ∧ w ≤ 10 ^ 6) ∧ WBad K H l 1 r ∧ o = .at r)))))
theorem SBad.same {B H : Hp} {b k f l : V} {o : SOut} (s : Same B H) (h : SBad K B b k f l o) : SBad K H b k f l o := by
  rcases h with ⟨h, e⟩ | ⟨bi, e1, e2, ⟨h, e⟩ | ⟨ki, e3, e4, ⟨r, h, e⟩ | ⟨p, ws, r, e5, hp, hl, hw, h, e⟩⟩⟩
  · exact .inl ⟨h.same s, e⟩
  · exact .inr ⟨bi, e1, e2, .inl ⟨h.same s, e⟩⟩
  · exact .inr ⟨bi, e1, e2, .inr ⟨ki, e3, e4, .inl ⟨r, h.same s, e⟩⟩⟩
  · exact .inr ⟨bi, e1, e2, .inr ⟨ki, e3, e4, .inr ⟨p, ws, r, e5, s _ _ hp, hl, hw, h.same s, e⟩⟩⟩
def SXOut (Z : Adr) (H : Hp) (o : SOut) (E : XK) : Prop := match o with
  | .base => E (.ref Z.c_BadBase) none H
  | .take => E (.ref Z.c_BadTake) none H
  | .at r => ∀ d H1, Same H H1 → H1 d = none → E (.ref Z.c_BadWeights) (some d) (upd H1 d (.xd [("index", r)]))
def sp_x_Sum_init (K : Frag) (Z : Adr) : Sp := fun vs H _ E => ∃ (x b k f l : V) (o : SOut), vs = [x, b, k, f, l] ∧ SBad K H b k f l o ∧ SXOut Z H o E
theorem okX_Sum_init (T : Txt K mg Z) : FnOk P w K mg base (L2.CX P w) 4 Z.f_Sum_init Z.d_Sum_init p_Sum_init (sp_x_Sum_init K Z) := by
  refine T.F_Sum_init.okX sc_Sum_init (fun vs H Q E h => ?_) (fun cdv A outer s H vs Q E hr h => ?_)
  · obtain ⟨_, _, _, _, _, _, rfl, _⟩ := h; rfl
  · obtain ⟨x, b, k, f, l, o, rfl, hv, h⟩ := h
    rcases hv with ⟨hb, rfl⟩ | ⟨bi, rfl, ⟨hb1, hb2⟩, ⟨hk, rfl⟩ | ⟨ki, rfl, ⟨hk1, hk2⟩, ⟨r, hf, rfl⟩ | ⟨p, ws, r, rfl, hp, hl, hw, hf, rfl⟩⟩⟩
    · refine ⟨_, (pss_cons (ps_expr (pe_call (okX_need_base T) (hr.mono (by decide)) rfl T.g_need_base T.F_need_base.kp T.b_need_base .nil (passes_call (takes_of rfl rfl rfl rfl) (fun _ _ _ _ h => h)) (pa_cons (pv 1) pa_nil)))
    pss_never), ?_⟩
      walk_at "g"
      exact ⟨_, rfl, hb, h⟩
    · refine ⟨_, (pss_cons (ps_expr (pe_call (ok_need_base T) (hr.mono (by decide)) rfl T.g_need_base T.F_need_base.kp T.b_need_base .nil pass0 (pa_cons (pv 1) pa_nil)))
    (pss_cons (ps_if (pt_not (pt_val (pe_call (okX_is_from T) (hr.mono (by decide)) rfl T.g_is_from T.F_is_from.kp T.b_is_from .nil pass0 (pa_cons (pv 2) (pa_cons pe_int (pa_cons (pe_globI rfl T.v_MOST_TAKE) pa_nil)))))) (pss_one (ps_raise0 rfl (takes_of rfl rfl rfl rfl) T.ox_BadTake T.ix_BadTake T.tx_BadTake (ok_BadTake_init T) (hr.mono (by decide)) T.b_BadTake_init rfl T.g_BadTake)) pss_nil)
    pss_never)), ?_⟩
      walk_at "g"
      refine use_x_is_from hk ?_
      walk_at "g"
      exact h
    · refine ⟨_, (pss_cons (ps_expr (pe_call (ok_need_base T) (hr.mono (by decide)) rfl T.g_need_base T.F_need_base.kp T.b_need_base .nil pass0 (pa_cons (pv 1) pa_nil)))
    (pss_cons (ps_if (pt_not (pt_val (pe_call (ok_is_from T) (hr.mono (by decide)) rfl T.g_is_from T.F_is_from.kp T.b_is_from .nil pass0 (pa_cons (pv 2) (pa_cons pe_int (pa_cons (pe_globI rfl T.v_MOST_TAKE) pa_nil)))))) (pss_one ps_never) pss_nil)
    (pss_cons (ps_expr (pe_call (okX_need_weights T) (hr.mono (by decide)) rfl T.g_need_weights T.F_need_weights.kp T.b_need_weights .nil (passes_call (takes_of rfl rfl rfl rfl) (fun _ _ _ _ h => h)) (pa_cons (pv 3) (pa_cons pe_int pa_nil))))
    pss_never))), ?_⟩
      walk_at "g"
      exact ⟨_, r, 0, rfl, hf, h⟩
    · refine ⟨_, (pss_cons (ps_expr (pe_call (ok_need_base T) (hr.mono (by decide)) rfl T.g_need_base T.F_need_base.kp T.b_need_base .nil pass0 (pa_cons (pv 1) pa_nil)))
    (pss_cons (ps_if (pt_not (pt_val (pe_call (ok_is_from T) (hr.mono (by decide)) rfl T.g_is_from T.F_is_from.kp T.b_is_from .nil pass0 (pa_cons (pv 2) (pa_cons pe_int (pa_cons (pe_globI rfl T.v_MOST_TAKE) pa_nil)))))) (pss_one ps_never) pss_nil)
    (pss_cons (ps_expr (pe_call (ok_need_weights T) (hr.mono (by decide)) rfl T.g_need_weights T.F_need_weights.kp T.b_need_weights .nil pass0 (pa_cons (pv 3) (pa_cons pe_int pa_nil))))
    (pss_cons (ps_expr (pe_call (okX_need_weights T) (hr.mono (by decide)) rfl T.g_need_weights T.F_need_weights.kp T.b_need_weights .nil (passes_call (takes_of rfl rfl rfl rfl) (fun _ _ _ _ h => h)) (pa_cons (pv 4) (pa_cons pe_int pa_nil))))
    pss_never)))), ?_⟩
      walk_at "g"
      refine ⟨p, ws, 0, rfl, hp, by omega, hl, hw, fun H' s => ?_⟩
      walk_at "g"
      exact ⟨_, r, 1, rfl, hf.same s, fun d H1 s1 hd => h d H1 (s.trans s1) hd⟩

/-! ### Sum_base -/
-- @NEEDS Sum_init
def sp_Sum_base (Z : Adr) : Sp := fun vs H Q _ => ∃ (a dx p1 p2 : Addr) (b k : Int), vs = [.ref a] ∧ H a = some (.ins Z.c_Sum dx (sumF b k p1 p2)) ∧ Q (.int b) H
theorem use_Sum_base {H : Hp} {a dx p1 p2 : Addr} {b k : Int} {Q : VK} {E : XK} (ha : H a = some (.ins Z.c_Sum dx (sumF b k p1 p2))) (h : Q (.int b) H) : ∃ a' dx fs, V.ref a = .ref a' ∧ H a' = some (.ins Z.c_Sum dx fs) ∧ sp_Sum_base Z (.ref a' :: []) H Q E :=
  ⟨a, dx, _, rfl, ha, a, dx, p1, p2, b, k, rfl, ha, h⟩
theorem ok_Sum_base (T : Txt K mg Z) : FnOk P w K mg base CX0 1 Z.f_Sum_base Z.d_Sum_base p_Sum_base (sp_Sum_base Z) := by
  refine T.F_Sum_base.ok sc_Sum_base (fun vs H Q E h => ?_) (fun cdv A outer s H vs Q E hr h => ?_)
  · obtain ⟨_, _, _, _, _, _, rfl, _⟩ := h; rfl
  · obtain ⟨a, dx, p1, p2, b, k, rfl, ha, h⟩ := h
    refine ⟨_, (pss_one (ps_ret (pe_fld (pv 0) rfl))), ?_⟩
    walk_at "g"
    refine a_getF (v := .int b) ha T.cl_Sum T.nf_Sum_basis (by unfold sumF; simp only [lk_eq]) ?_
    exact h

/-! ### Sum_take -/
-- @NEEDS Sum_init
def sp_Sum_take (Z : Adr) : Sp := fun vs H Q _ => ∃ (a dx p1 p2 : Addr) (b k : Int), vs = [.ref a] ∧ H a = some (.ins Z.c_Sum dx (sumF b k p1 p2)) ∧ Q (.int k) H
theorem use_Sum_take {H : Hp} {a dx p1 p2 : Addr} {b k : Int} {Q : VK} {E : XK} (ha : H a = some (.ins Z.c_Sum dx (sumF b k p1 p2))) (h : Q (.int k) H) : ∃ a' dx fs, V.ref a = .ref a' ∧ H a' = some (.ins Z.c_Sum dx fs) ∧ sp_Sum_take Z (.ref a' :: []) H Q E :=
  ⟨a, dx, _, rfl, ha, a, dx, p1, p2, b, k, rfl, ha, h⟩
theorem ok_Sum_take (T : Txt K mg Z) : FnOk P w K mg base CX0 1 Z.f_Sum_take Z.d_Sum_take p_Sum_take (sp_Sum_take Z) := by
  refine T.F_Sum_take.ok sc_Sum_take (fun vs H Q E h => ?_) (fun cdv A outer s H vs Q E hr h => ?_)
  · obtain ⟨_, _, _, _, _, _, rfl, _⟩ := h; rfl
  · obtain ⟨a, dx, p1, p2, b, k, rfl, ha, h⟩ := h
    refine ⟨_, (pss_one (ps_ret (pe_fld (pv 0) rfl))), ?_⟩
    walk_at "g"
    refine a_getF (v := .int k) ha T.cl_Sum T.nf_Sum_many (by unfold sumF; simp only [lk_ne (show ¬ ("many" : Str) = "basis" by decide +kernel), lk_eq]) ?_
    exact h

/-! ### Sum_first -/
-- @NEEDS Sum_init
def sp_Sum_first (Z : Adr) : Sp := fun vs H Q _ => ∃ (a dx p1 p2 : Addr) (b k : Int), vs = [.ref a] ∧ H a = some (.ins Z.c_Sum dx (sumF b k p1 p2)) ∧ Q (.ref p1) H
theorem use_Sum_first {H : Hp} {a dx p1 p2 : Addr} {b k : Int} {Q : VK} {E : XK} (ha : H a = some (.ins Z.c_Sum dx (sumF b k p1 p2))) (h : Q (.ref p1) H) : ∃ a' dx fs, V.ref a = .ref a' ∧ H a' = some (.ins Z.c_Sum dx fs) ∧ sp_Sum_first Z (.ref a' :: []) H Q E :=
  ⟨a, dx, _, rfl, ha, a, dx, p1, p2, b, k, rfl, ha, h⟩
theorem ok_Sum_first (T : Txt K mg Z) : FnOk P w K mg base CX0 1 Z.f_Sum_first Z.d_Sum_first p_Sum_first (sp_Sum_first Z) := by
  refine T.F_Sum_first.ok sc_Sum_first (fun vs H Q E h => ?_) (fun cdv A outer s H vs Q E hr h => ?_)
  · obtain ⟨_, _, _, _, _, _, rfl, _⟩ := h; rfl
  · obtain ⟨a, dx, p1, p2, b, k, rfl, ha, h⟩ := h
    refine ⟨_, (pss_one (ps_ret (pe_fld (pv 0) rfl))), ?_⟩
    walk_at "g"
    refine a_getF (v := .ref p1) ha T.cl_Sum T.nf_Sum_begun (by unfold sumF; simp only [lk_ne (show ¬ ("begun" : Str) = "basis" by decide +kernel), lk_ne (show ¬ ("begun" : Str) = "many" by decide +kernel), lk_eq]) ?_
    exact h

/-! ### Sum_loop -/
-- @NEEDS Sum_init
def sp_Sum_loop (Z : Adr) : Sp := fun vs H Q _ => ∃ (a dx p1 p2 : Addr) (b k : Int), vs = [.ref a] ∧ H a = some (.ins Z.c_Sum dx (sumF b k p1 p2)) ∧ Q (.ref p2) H
theorem use_Sum_loop {H : Hp} {a dx p1 p2 : Addr} {b k : Int} {Q : VK} {E : XK} (ha : H a = some (.ins Z.c_Sum dx (sumF b k p1 p2))) (h : Q (.ref p2) H) : ∃ a' dx fs, V.ref a = .ref a' ∧ H a' = some (.ins Z.c_Sum dx fs) ∧ sp_Sum_loop Z (.ref a' :: []) H Q E :=
  ⟨a, dx, _, rfl, ha, a, dx, p1, p2, b, k, rfl, ha, h⟩
theorem ok_Sum_loop (T : Txt K mg Z) : FnOk P w K mg base CX0 1 Z.f_Sum_loop Z.d_Sum_loop p_Sum_loop (sp_Sum_loop Z) := by
  refine T.F_Sum_loop.ok sc_Sum_loop (fun vs H Q E h => ?_) (fun cdv A outer s H vs Q E hr h => ?_)
  · obtain ⟨_, _, _, _, _, _, rfl, _⟩ := h; rfl
  · obtain ⟨a, dx, p1, p2, b, k, rfl, ha, h⟩ := h
    refine ⟨_, (pss_one (ps_ret (pe_fld (pv 0) rfl))), ?_⟩
    walk_at "g"
    refine a_getF (v := .ref p2) ha T.cl_Sum T.nf_Sum_again (by unfold sumF; simp only [lk_ne (show ¬ ("again" : Str) = "basis" by decide +kernel), lk_ne (show ¬ ("again" : Str) = "many" by decide +kernel), lk_ne (show ¬ ("again" : Str) = "begun" by decide +kernel), lk_eq]) ?_
    exact h

/-! ### Sum_eq -/
-- @NEEDS Sum_init
def sp_Sum_eq (K : Frag) (Z : Adr) : Sp := fun vs H Q _ => ∃ (a : Addr) (b k : Int) (f l : List Int) (y : V), vs = [.ref a, y] ∧ SumAt Z H a b k f l ∧
  ((NoI K H y ∧ Q (.bl false) H) ∨ ∃ (c : Addr) (b' k' : Int) (f' l' : List Int), y = .ref c ∧ SumAt Z H c b' k' f' l' ∧ Q (.bl (decide (b = b') && (decide (k = k') && (decide (f = f') && decide (l = l'))))) H)
theorem use_Sum_eq {H : Hp} {a c : Addr} {b k b' k' : Int} {f l f' l' : List Int} {Q : VK} (ha : SumAt Z H a b k f l) (hc : SumAt Z H c b' k' f' l') (h : Q (.bl (decide (b = b') && (decide (k = k') && (decide (f = f') && decide (l = l'))))) H) : rOwnE K Z.c_Sum (sp_Sum_eq K Z) (.ref a) (.ref c) H Q := by
  have ha2 := ha
  have hc2 := hc
  obtain ⟨_, dx, _, _, e, _⟩ := ha2
  obtain ⟨_, dy, _, _, e', _⟩ := hc2
  exact ⟨a, dx, _, rfl, e, ⟨c, rfl, .inl ⟨dy, _, e'⟩⟩, a, b, k, f, l, .ref c, rfl, ha, .inr ⟨c, b', k', f', l', rfl, hc, ⟨_, rfl⟩, h⟩⟩
theorem use_Sum_neT {H : Hp} {a c : Addr} {b k : Int} {f l : List Int} {xs : List V} {Q : VK} (ha : SumAt Z H a b k f l) (hc : H c = some (.tup xs)) (h : Q (.bl false) H) : rOwnE K Z.c_Sum (sp_Sum_eq K Z) (.ref a) (.ref c) H Q := by
  have ha2 := ha
  obtain ⟨_, dx, _, _, e, _⟩ := ha2
  exact ⟨a, dx, _, rfl, e, ⟨c, rfl, .inr ⟨xs, hc⟩⟩, a, b, k, f, l, .ref c, rfl, ha, .inl ⟨.inl (.tup hc), ⟨_, rfl⟩, h⟩⟩
theorem ok_Sum_eq (T : Txt K mg Z) : FnOk P w K mg base CX0 1 Z.f_Sum_eq Z.d_Sum_eq p_Sum_eq (sp_Sum_eq K Z) := by
  refine T.F_Sum_eq.ok sc_Sum_eq (fun vs H Q E h => ?_) (fun cdv A outer s H vs Q E hr h => ?_)
  · obtain ⟨_, _, _, _, _, _, rfl, _⟩ := h; rfl
  · obtain ⟨a, b, k, f, l, y, rfl, ha, h⟩ := h
    refine ⟨_, (pss_cons (ps_if (PW.pt (pw_or (pt_not (pt_val (pe_callB (r := rIsi K) call_isi (by rfl) T.n_isinstance boot_isinstance (pa_cons (pv 1) (pa_cons (pe_glob rfl T.g_Sum (v := .ref Z.c_Sum) rfl) pa_nil))))) (pw_or (pt_cmpR op_ne (pe_fld (pv 0) rfl) (pe_fld (pv 1) rfl) (nomark _)) (pw_or1 (pt_cmpR op_ne (pe_fld (pv 0) rfl) (pe_fld (pv 1) rfl) (nomark _)))))) (pss_one (ps_ret pe_bl)) pss_nil)
    (pss_one (ps_ret (pe_and (pe_cmpR (r := rEqD K) (op_eqD hr.units) (pe_fld (pv 0) rfl) (pe_fld (pv 1) rfl) (nomark _)) (pe_one (pe_cmpR (r := rEqD K) (op_eqD hr.units) (pe_fld (pv 0) rfl) (pe_fld (pv 1) rfl) (nomark _))))))), ?_⟩
    rcases h with ⟨hy, h⟩ | ⟨c, b', k', f', l', rfl, hc, h⟩
    · walk_at "g"
      refine a_isiC T.ty_Sum hy ?_
      walk_at "g"
      exact h
    · obtain ⟨_, dx, p1, p2, ea, e1, e2⟩ := ha
      obtain ⟨_, dy, q1, q2, ec, g1, g2⟩ := hc
      have fb : ∀ (b k : Int) (p1 p2 : Addr), List.lookup ("basis" : Str) (sumF b k p1 p2) = some (V.int b) := fun b k p1 p2 => by unfold sumF; rw [lk_eq]
      have fm : ∀ (b k : Int) (p1 p2 : Addr), List.lookup ("many" : Str) (sumF b k p1 p2) = some (V.int k) := fun b k p1 p2 => by unfold sumF; rw [lk_ne (by decide +kernel), lk_eq]
      have ff : ∀ (b k : Int) (p1 p2 : Addr), List.lookup ("begun" : Str) (sumF b k p1 p2) = some (V.ref p1) := fun b k p1 p2 => by unfold sumF; rw [lk_ne (by decide +kernel), lk_ne (by decide +kernel), lk_eq]
      have fl : ∀ (b k : Int) (p1 p2 : Addr), List.lookup ("again" : Str) (sumF b k p1 p2) = some (V.ref p2) := fun b k p1 p2 => by unfold sumF; rw [lk_ne (by decide +kernel), lk_ne (by decide +kernel), lk_ne (by decide +kernel), lk_eq]
      walk_at "g"
      refine ⟨_, _, _, _, true, rfl, .own _, .base (.ins ec T.is_Sum.cl T.is_Sum.ha T.is_Sum.hn T.is_Sum.htk T.is_Sum.hm), T.is_Sum.me, ?_⟩
      walk_at "g"
      refine a_getF ea T.cl_Sum T.nf_Sum_basis (fb _ _ _ _) ?_
      walk_at "g"
      refine a_getF ec T.cl_Sum T.nf_Sum_basis (fb _ _ _ _) ?_
      walk_at "g"
      refine a_ni2 (fun c1 => ?_) (fun c1 => ?_)
      · walk_at "g"
        refine a_getF ea T.cl_Sum T.nf_Sum_many (fm _ _ _ _) ?_
        walk_at "g"
        refine a_getF ec T.cl_Sum T.nf_Sum_many (fm _ _ _ _) ?_
        walk_at "g"
        rw [decide_eq_true c1, Bool.true_and] at h
        refine a_ni2 (fun c2 => ?_) (fun c2 => ?_)
        · walk_at "g"
          refine a_getF ea T.cl_Sum T.nf_Sum_begun (ff _ _ _ _) ?_
          walk_at "g"
          refine a_getF ec T.cl_Sum T.nf_Sum_begun (ff _ _ _ _) ?_
          walk_at "g"
          refine a_eqTT (SqT.of e1) (SqT.of g1) ?_
          rw [decide_eq_true c2, Bool.true_and] at h
          walk_at "g"
          refine a_it2 (fun c3 => ?_) (fun c3 => ?_)
          · walk_at "g"
            refine a_getF ea T.cl_Sum T.nf_Sum_again (fl _ _ _ _) ?_
            walk_at "g"
            refine a_getF ec T.cl_Sum T.nf_Sum_again (fl _ _ _ _) ?_
            walk_at "g"
            refine a_eqTT (SqT.of e2) (SqT.of g2) ?_
            rw [decide_eq_true c3, Bool.true_and] at h
            walk_at "g"
            exact h
          · rw [decide_eq_false c3, Bool.false_and] at h
            exact h
        · walk_at "g"
          rw [decide_eq_false c2, Bool.false_and] at h
          exact h
      · walk_at "g"
        rw [decide_eq_false c1, Bool.false_and] at h
        exact h

/-! ### need_sum -/
-- @NEEDS Sum_init
def sp_need_sum (Z : Adr) : Sp := fun vs H Q _ => ∃ (a : Addr) (b k : Int) (f l : List Int), vs = [.ref a] ∧ SumAt Z H a b k f l ∧ Q .non H
theorem ok_need_sum (T : Txt K mg Z) : FnOk P w K mg base CX0 1 Z.f_need_sum Z.d_need_sum p_need_sum (sp_need_sum Z) := by
  refine T.F_need_sum.ok sc_need_sum (fun vs H Q E h => ?_) (fun cdv A outer s H vs Q E hr h => ?_)
  · obtain ⟨_, _, _, _, _, rfl, _⟩ := h; rfl
  · obtain ⟨a, b, k, f, l, rfl, ha, h⟩ := h
    refine ⟨_, (pss_one (ps_if (pt_not (pt_val (pe_callB (r := rIsi K) call_isi (by rfl) T.n_isinstance boot_isinstance (pa_cons (pv 0) (pa_cons (pe_glob rfl T.g_Sum (v := .ref Z.c_Sum) rfl) pa_nil))))) (pss_one ps_never) pss_nil)), ?_⟩
    walk_at "g"
    obtain ⟨_, dx, _, _, h2, _⟩ := ha
    refine ⟨_, _, _, _, true, rfl, .own _, .base (.ins h2 T.is_Sum.cl T.is_Sum.ha T.is_Sum.hn T.is_Sum.htk T.is_Sum.hm), T.is_Sum.me, ?_⟩
    walk_at "g"
    exact h

/-! ### need_sum_x -/
def sp_x_need_sum (K : Frag) (Z : Adr) : Sp := fun vs H _ E => ∃ v, vs = [v] ∧ NoI K H v ∧ E (.ref Z.c_BadSum) none H
theorem okX_need_sum (T : Txt K mg Z) : FnOk P w K mg base (L2.CX P w) 3 Z.f_need_sum Z.d_need_sum p_need_sum (sp_x_need_sum K Z) := by
  refine T.F_need_sum.okX sc_need_sum (fun vs H Q E h => ?_) (fun cdv A outer s H vs Q E hr h => ?_)
  · obtain ⟨_, rfl, _⟩ := h; rfl
  · obtain ⟨v, rfl, hv, h⟩ := h
    refine ⟨_, (pss_one (ps_if (pt_not (pt_val (pe_callB (r := rIsi K) call_isi (by rfl) T.n_isinstance boot_isinstance (pa_cons (pv 0) (pa_cons (pe_glob rfl T.g_Sum (v := .ref Z.c_Sum) rfl) pa_nil))))) (pss_one (ps_raise0 rfl (takes_of rfl rfl rfl rfl) T.ox_BadSum T.ix_BadSum T.tx_BadSum (ok_BadSum_init T) (hr.mono (by decide)) T.b_BadSum_init rfl T.g_BadSum)) pss_nil)), ?_⟩
    walk_at "g"
    refine a_isiC T.ty_Sum hv ?_
    walk_at "g"
    exact h

/-! ### total_x -/
-- @NEEDS Sum_init
def sp_x_total (K : Frag) (Z : Adr) : Sp := fun vs H _ E => ∃ v0 v1 : V, vs = [v0, v1] ∧ ((NoI K H v0 ∧ (E (.ref Z.c_BadSum) none H)) ∨
  ((∃ a0 b0 k0 f0 l0, v0 = .ref a0 ∧ SumAt Z H a0 b0 k0 f0 l0) ∧ OutR K H v1 0 (10 ^ 40) ∧ (∀ d, H d = none → E (.ref Z.c_BadNumber) (some d) (upd H d (.xd [("n", v1)])))))
theorem okX_total (T : Txt K mg Z) : FnOk P w K mg base (L2.CX P w) 4 Z.f_total Z.d_total p_total (sp_x_total K Z) := by
  refine T.F_total.okX sc_total (fun vs H Q E h => ?_) (fun cdv A outer s H vs Q E hr h => ?_)
  · obtain ⟨_, _, rfl, _⟩ := h; rfl
  · obtain ⟨v0, v1, rfl, h⟩ := h
    rcases h with ⟨hb, h⟩ | ⟨⟨a0, b0, k0, f0, l0, rfl, ht0⟩, hb, h⟩
    · refine ⟨_, (pss_cons (ps_expr (pe_call (okX_need_sum T) (hr.mono (by decide)) rfl T.g_need_sum T.F_need_sum.kp T.b_need_sum .nil (passes_call (takes_of rfl rfl rfl rfl) (fun _ _ _ _ h => h)) (pa_cons (pv 0) pa_nil)))
    pss_never), ?_⟩
      walk_at "g"
      exact ⟨_, rfl, hb, h⟩
    · refine ⟨_, (pss_cons (ps_expr (pe_call (ok_need_sum T) (hr.mono (by decide)) rfl T.g_need_sum T.F_need_sum.kp T.b_need_sum .nil pass0 (pa_cons (pv 0) pa_nil)))
    (pss_cons (ps_if (pt_not (pt_val (pe_call (okX_is_from T) (hr.mono (by decide)) rfl T.g_is_from T.F_is_from.kp T.b_is_from .nil pass0 (pa_cons (pv 1) (pa_cons pe_int (pa_cons (pe_globI rfl T.v_MOST_NUMBER) pa_nil)))))) (pss_one (ps_raise1 rfl (takes_of rfl rfl rfl rfl) T.ox_BadNumber T.ix_BadNumber T.tx_BadNumber (ok_BadNumber_init T) (hr.mono (by decide)) T.b_BadNumber_init rfl T.g_BadNumber (pa_cons (pv 1) pa_nil))) pss_nil)
    pss_never)), ?_⟩
      walk_at "g"
      refine ⟨_, _, _, _, _, rfl, ht0, ?_⟩
      walk_at "g"
      refine use_x_is_from hb ?_
      walk_at "g"
      exact h

/-! ### sum_fails_x -/
-- @NEEDS Sum_init
def sp_x_sum_fails (K : Frag) (Z : Adr) : Sp := fun vs H _ E => ∃ v0 v1 : V, vs = [v0, v1] ∧ ((NoI K H v0 ∧ (E (.ref Z.c_BadSum) none H)) ∨
  ((∃ a0 b0 k0 f0 l0, v0 = .ref a0 ∧ SumAt Z H a0 b0 k0 f0 l0) ∧ OutR K H v1 1 30 ∧ (E (.ref Z.c_BadDivisor) none H)))
theorem okX_sum_fails (T : Txt K mg Z) : FnOk P w K mg base (L2.CX P w) 4 Z.f_sum_fails Z.d_sum_fails p_sum_fails (sp_x_sum_fails K Z) := by
  refine T.F_sum_fails.okX sc_sum_fails (fun vs H Q E h => ?_) (fun cdv A outer s H vs Q E hr h => ?_)
  · obtain ⟨_, _, rfl, _⟩ := h; rfl
  · obtain ⟨v0, v1, rfl, h⟩ := h
    rcases h with ⟨hb, h⟩ | ⟨⟨a0, b0, k0, f0, l0, rfl, ht0⟩, hb, h⟩
    · refine ⟨_, (pss_cons (ps_expr (pe_call (okX_need_sum T) (hr.mono (by decide)) rfl T.g_need_sum T.F_need_sum.kp T.b_need_sum .nil (passes_call (takes_of rfl rfl rfl rfl) (fun _ _ _ _ h => h)) (pa_cons (pv 0) pa_nil)))
    pss_never), ?_⟩
      walk_at "g"
      exact ⟨_, rfl, hb, h⟩
    · refine ⟨_, (pss_cons (ps_expr (pe_call (ok_need_sum T) (hr.mono (by decide)) rfl T.g_need_sum T.F_need_sum.kp T.b_need_sum .nil pass0 (pa_cons (pv 0) pa_nil)))
    (pss_cons (ps_expr (pe_call (okX_need_divisor T) (hr.mono (by decide)) rfl T.g_need_divisor T.F_need_divisor.kp T.b_need_divisor .nil (passes_call (takes_of rfl rfl rfl rfl) (fun _ _ _ _ h => h)) (pa_cons (pv 1) (pa_cons (pe_globI rfl T.v_MOST_SUM_DIVISOR) pa_nil))))
    pss_never)), ?_⟩
      walk_at "g"
      refine ⟨_, _, _, _, _, rfl, ht0, ?_⟩
      walk_at "g"
      exact ⟨_, _, rfl, hb, h⟩

/-! ### sum_rest_fails_x -/
-- @NEEDS Sum_init
def sp_x_sum_rest_fails (K : Frag) (Z : Adr) : Sp := fun vs H _ E => ∃ v0 v1 : V, vs = [v0, v1] ∧ ((NoI K H v0 ∧ (E (.ref Z.c_BadSum) none H)) ∨
  ((∃ a0 b0 k0 f0 l0, v0 = .ref a0 ∧ SumAt Z H a0 b0 k0 f0 l0) ∧ OutR K H v1 1 30 ∧ (E (.ref Z.c_BadDivisor) none H)))
theorem okX_sum_rest_fails (T : Txt K mg Z) : FnOk P w K mg base (L2.CX P w) 4 Z.f_sum_rest_fails Z.d_sum_rest_fails p_sum_rest_fails (sp_x_sum_rest_fails K Z) := by
  refine T.F_sum_rest_fails.okX sc_sum_rest_fails (fun vs H Q E h => ?_) (fun cdv A outer s H vs Q E hr h => ?_)
  · obtain ⟨_, _, rfl, _⟩ := h; rfl
  · obtain ⟨v0, v1, rfl, h⟩ := h
    rcases h with ⟨hb, h⟩ | ⟨⟨a0, b0, k0, f0, l0, rfl, ht0⟩, hb, h⟩
    · refine ⟨_, (pss_cons (ps_expr (pe_call (okX_need_sum T) (hr.mono (by decide)) rfl T.g_need_sum T.F_need_sum.kp T.b_need_sum .nil (passes_call (takes_of rfl rfl rfl rfl) (fun _ _ _ _ h => h)) (pa_cons (pv 0) pa_nil)))
    pss_never), ?_⟩
      walk_at "g"
      exact ⟨_, rfl, hb, h⟩
    · refine ⟨_, (pss_cons (ps_expr (pe_call (ok_need_sum T) (hr.mono (by decide)) rfl T.g_need_sum T.F_need_sum.kp T.b_need_sum .nil pass0 (pa_cons (pv 0) pa_nil)))
    (pss_cons (ps_expr (pe_call (okX_need_divisor T) (hr.mono (by decide)) rfl T.g_need_divisor T.F_need_divisor.kp T.b_need_divisor .nil (passes_call (takes_of rfl rfl rfl rfl) (fun _ _ _ _ h => h)) (pa_cons (pv 1) (pa_cons (pe_globI rfl T.v_MOST_SUM_DIVISOR) pa_nil))))
    pss_never)), ?_⟩
      walk_at "g"
      refine ⟨_, _, _, _, _, rfl, ht0, ?_⟩
      walk_at "g"
      exact ⟨_, _, rfl, hb, h⟩

/-! ### sum_tells_x -/
-- @NEEDS Sum_init
def sp_x_sum_tells (K : Frag) (Z : Adr) : Sp := fun vs H _ E => ∃ v0 v1 : V, vs = [v0, v1] ∧ ((NoI K H v0 ∧ (E (.ref Z.c_BadSum) none H)) ∨
  ((∃ a0 b0 k0 f0 l0, v0 = .ref a0 ∧ SumAt Z H a0 b0 k0 f0 l0) ∧ OutR K H v1 1 30 ∧ (E (.ref Z.c_BadDivisor) none H)))
theorem okX_sum_tells (T : Txt K mg Z) : FnOk P w K mg base (L2.CX P w) 4 Z.f_sum_tells Z.d_sum_tells p_sum_tells (sp_x_sum_tells K Z) := by
  refine T.F_sum_tells.okX sc_sum_tells (fun vs H Q E h => ?_) (fun cdv A outer s H vs Q E hr h => ?_)
  · obtain ⟨_, _, rfl, _⟩ := h; rfl
  · obtain ⟨v0, v1, rfl, h⟩ := h
    rcases h with ⟨hb, h⟩ | ⟨⟨a0, b0, k0, f0, l0, rfl, ht0⟩, hb, h⟩
    · refine ⟨_, (pss_cons (ps_expr (pe_call (okX_need_sum T) (hr.mono (by decide)) rfl T.g_need_sum T.F_need_sum.kp T.b_need_sum .nil (passes_call (takes_of rfl rfl rfl rfl) (fun _ _ _ _ h => h)) (pa_cons (pv 0) pa_nil)))
    pss_never), ?_⟩
      walk_at "g"
      exact ⟨_, rfl, hb, h⟩
    · refine ⟨_, (pss_cons (ps_expr (pe_call (ok_need_sum T) (hr.mono (by decide)) rfl T.g_need_sum T.F_need_sum.kp T.b_need_sum .nil pass0 (pa_cons (pv 0) pa_nil)))
    (pss_cons (ps_expr (pe_call (okX_need_divisor T) (hr.mono (by decide)) rfl T.g_need_divisor T.F_need_divisor.kp T.b_need_divisor .nil (passes_call (takes_of rfl rfl rfl rfl) (fun _ _ _ _ h => h)) (pa_cons (pv 1) (pa_cons (pe_globI rfl T.v_MOST_SUM_DIVISOR) pa_nil))))
    pss_never)), ?_⟩
      walk_at "g"
      refine ⟨_, _, _, _, _, rfl, ht0, ?_⟩
      walk_at "g"
      exact ⟨_, _, rfl, hb, h⟩

/-! ### law_taken -/
/-- the row of draws as it stands -/
def RowOk (sc : Addr) (o : HO) : Prop := ∃ i s c : Int, o = .lst [.ref sc, .int i, .int s, .int c] ∧ 0 ≤ i ∧ 0 ≤ s ∧ s < 2147483647 ∧ 0 ≤ c
def sp_law_taken (K : Frag) : Sp := fun vs H Q _ => ∃ (row sc : Addr) (o : HO) (ns : List Int) (m : Int), vs = [.ref row, .int m] ∧ H row = some o ∧ RowOk sc o ∧ SqL K H sc (ns.map V.int) ∧ 0 < m ∧ m < 10 ^ 60 ∧
  ∀ (r : Int) (o' : HO) (H' : Hp), 0 ≤ r → r < m → RowOk sc o' → H' row = some o' → (∀ b v, b ≠ row → H b = some v → H' b = some v) → Q (.int r) H'
theorem row_ne {K : Frag} {H : Hp} {row sc : Addr} {o : HO} {ns : List Int} (h : H row = some o) (r : RowOk sc o) (hs : SqL K H sc (ns.map V.int)) : SqL K (del1 H row) sc (ns.map V.int) := by
  obtain ⟨i, s, c, rfl, _⟩ := r
  have d : ∀ ns : List Int, (ns.map V.int) ≠ [.ref sc, .int i, .int s, .int c] := fun ns e => by
    cases ns with
    | nil => cases e
    | cons a l => injection e with e1 _; cases e1
  rcases hs with (hs | ⟨q, hs⟩) | hs
  · have ne : sc ≠ row := fun z => by
      rw [z, h] at hs
      injection hs with e
      injection e with e
      exact d ns e.symm
    exact .inl (.inl (by rw [del1_ne ne]; exact hs))
  · have ne : sc ≠ row := fun z => by
      rw [z, h] at hs
      injection hs with e
      cases e
    exact .inl (.inr ⟨q, by rw [del1_ne ne]; exact hs⟩)
  · exact .inr hs
theorem use_law_taken {K : Frag} {B H : Hp} {Lw : List (Addr × HO)} {row sc : Addr} {o : HO} {ns : List Int} {m : Int} {Q : VK} {E : XK} (O : Own B Lw H) (i : Nat) (hi : Lw[i]? = some (row, o)) (ho : RowOk sc o) (hs : SqL K B sc (ns.map V.int)) (h1 : 0 < m ∧ m < 10 ^ 60)
    (h : ∀ (r : Int) (o' : HO) (H' : Hp), 0 ≤ r → r < m → RowOk sc o' → Own B (Lw.set i (row, o')) H' → Q (.int r) H') : sp_law_taken K ([.ref row, .int m] ++ []) H Q E :=
  ⟨row, sc, o, ns, m, rfl, O.get i hi, ho, O.seq hs, h1.1, h1.2, fun r o' H' hr0 hr1 ho' h1 h2 => h r o' H' hr0 hr1 ho' (O.but i hi h2 h1)⟩
theorem ok_law_taken (T : Txt K mg Z) : FnOk P w K mg base CX0 1 Z.f_law_taken Z.d_law_taken p_law_taken (sp_law_taken K) := by
  refine T.F_law_taken.ok sc_law_taken (fun vs H Q E h => ?_) (fun cdv A outer s H vs Q E hr h => ?_)
  · obtain ⟨_, _, _, _, _, rfl, _⟩ := h; rfl
  · obtain ⟨row, sc, o, ns, m, rfl, hrow, hok, hs, hm0, hm1, h⟩ := h
    have hs1 := row_ne hrow hok hs
    have O := Own.refl1 hrow
    obtain ⟨i, s0, c, rfl, hi0, hs0, hs2, hc0⟩ := hok
    refine ⟨_, (pss_cons (ps_if (pt_cmpR op_gt (pe_ix (r := rIxL K) ix_list (pv 0) pe_int (fun _ _ => rfl)) pe_int (nomark _)) (pss_cons (ps_set (i := 2) sc_law_taken.nd rfl (Or.inl rfl) (pe_op op_mod (pe_callTy call_int1 (by rfl) T.n_int boot_int (pa_cons (pe_ix (r := rIxL K) ix_list (pv 0) pe_int (fun _ _ => rfl)) pa_nil)) (pv 1)))
    (pss_cons (ps_asg (pe_op op_fdivW (pe_ix (r := rIxL K) ix_list (pv 0) pe_int (fun _ _ => rfl)) (pv 1)) (pg_sub (pv 0) pe_int set_list))
    (pss_one (ps_ret (pv 2))))) pss_nil)
    (pss_cons (ps_asg (pe_op op_add (pe_ix (r := rIxL K) ix_list (pv 0) pe_int (fun _ _ => rfl)) pe_int) (pg_sub (pv 0) pe_int set_list))
    (pss_cons (ps_if (pt_cmpR op_gt (pe_ix (r := rIxL K) ix_list (pv 0) pe_int (fun _ _ => rfl)) (pe_callB (r := R.rLen K) call_lenR (by rfl) T.n_len boot_len (pa_cons (pe_ix (r := rIxL K) ix_list (pv 0) pe_int (fun _ _ => rfl)) pa_nil)) (nomark _)) (pss_cons (ps_asg (pe_op op_mod (pe_callTy call_int1 (by rfl) T.n_int boot_int (pa_cons (pe_op op_add (pe_op op_mulX (pe_ix (r := rIxL K) ix_list (pv 0) pe_int (fun _ _ => rfl)) pe_int) pe_int) pa_nil)) pe_int) (pg_sub (pv 0) pe_int set_list))
    (pss_one (ps_ret (pe_op op_mod (pe_callTy call_int1 (by rfl) T.n_int boot_int (pa_cons (pe_op op_fdivW (pe_ix (r := rIxL K) ix_list (pv 0) pe_int (fun _ _ => rfl)) pe_int) pa_nil)) (pv 1))))) pss_nil)
    (pss_cons (ps_set (i := 3) sc_law_taken.nd rfl (Or.inl rfl) (pe_ix (r := rIxL K) ix_list (pe_ix (r := rIxL K) ix_list (pv 0) pe_int (fun _ _ => rfl)) (pe_op op_sub (pe_ix (r := rIxL K) ix_list (pv 0) pe_int (fun _ _ => rfl)) pe_int) (fun _ _ => rfl)))
    (pss_cons (ps_asg (pe_op op_mod (pe_callTy call_int1 (by rfl) T.n_int boot_int (pa_cons (pe_op op_add (pe_op op_add (pe_op op_mulX (pe_ix (r := rIxL K) ix_list (pv 0) pe_int (fun _ _ => rfl)) pe_int) (pv 3)) pe_int) pa_nil)) pe_int) (pg_sub (pv 0) pe_int set_list))
    (pss_cons (ps_if (pt_cmpR op_ge (pv 3) (pe_op op_pow pe_int pe_int) (nomark _)) (pss_one (ps_asg (pe_op op_fdivW (pv 3) (pv 1)) (pg_sub (pv 0) pe_int set_list))) pss_nil)
    (pss_one (ps_ret (pe_op op_mod (pe_callTy call_int1 (by rfl) T.n_int boot_int (pa_cons (pv 3) pa_nil)) (pv 1)))))))))), ?_⟩
    walk_at "g"
    refine a_it2 (fun c1 => ?_) (fun c1 => ?_)
    · walk_at "g"
      refine h _ _ _ (Int.emod_nonneg _ (by omega)) (Int.emod_lt_of_pos _ hm0) ?_ (Own.get (by assumption) 0 rfl) (Own.toBut (by assumption))
      exact ⟨_, _, _, rfl, hi0, hs0, hs2, Int.ediv_nonneg hc0 (by omega)⟩
    · walk_at "g"
      refine a_it2 (fun c2 => ?_) (fun c2 => ?_)
      · walk_at "g"
        refine h _ _ _ (Int.emod_nonneg _ (by omega)) (Int.emod_lt_of_pos _ hm0) ?_ (Own.get (by assumption) 0 rfl) (Own.toBut (by assumption))
        exact ⟨_, _, _, rfl, by omega, by omega, by omega, hc0⟩
      · rw [List.length_map] at c2
        have hlt : i.toNat < ns.length := by omega
        walk_at "g"
        refine a_ixL (v := .int (ns[i.toNat])) (Own.seq (by assumption) hs1) (at0 (j := i.toNat) (by omega) (by rw [List.getElem?_map, List.getElem?_eq_getElem hlt]; rfl)) ?_
        generalize ns[i.toNat] = cell
        walk_at "g"
        refine a_it2 (fun c3 => ?_) (fun c3 => ?_)
        · walk_at "g"
          refine h _ _ _ (Int.emod_nonneg _ (by omega)) (Int.emod_lt_of_pos _ hm0) ?_ (Own.get (by assumption) 0 rfl) (Own.toBut (by assumption))
          exact ⟨_, _, _, rfl, by omega, by omega, by omega, Int.ediv_nonneg (by omega) (by omega)⟩
        · walk_at "g"
          refine h _ _ _ (Int.emod_nonneg _ (by omega)) (Int.emod_lt_of_pos _ hm0) ?_ (Own.get (by assumption) 0 rfl) (Own.toBut (by assumption))
          exact ⟨_, _, _, rfl, by omega, by omega, by omega, hc0⟩

/-! ### law_power -/
def sp_law_power : Sp := fun vs H Q _ => ∃ b m : Int, vs = [.int b, .int m] ∧ -(2 ^ 62) ≤ m ∧ m < 2 ^ 62 ∧ -(2 ^ 64) < b ∧ b < 2 ^ 64 ∧ Q (.int (b ^ m.toNat)) H
theorem use_law_power {b m : Int} {H : Hp} {Q : VK} {E : XK} (h1 : -(2 ^ 62) ≤ m ∧ m < 2 ^ 62 ∧ -(2 ^ 64) < b ∧ b < 2 ^ 64) (h : Q (.int (b ^ m.toNat)) H) : sp_law_power ([.int b, .int m] ++ []) H Q E := ⟨_, _, rfl, h1.1, h1.2.1, h1.2.2.1, h1.2.2.2, h⟩
theorem ok_law_power (T : Txt K mg Z) : FnOk P w K mg base CX0 1 Z.f_law_power Z.d_law_power p_law_power sp_law_power := by
  refine T.F_law_power.ok sc_law_power (fun vs H Q E h => ?_) (fun cdv A outer s H vs Q E hr h => ?_)
  · obtain ⟨_, _, rfl, _⟩ := h; rfl
  · obtain ⟨b, m, rfl, h1, h2, h3, h4, h⟩ := h
    refine ⟨_, (pss_cons (ps_set (i := 2) sc_law_power.nd rfl (Or.inl rfl) pe_int)
    (pss_cons (ps_for PassesOwn.never rfl (pi_range1 rfl T.n_range (pa_cons (pv 1) pa_nil)) (pg_name (i := 3) sc_law_power.nd rfl (Or.inl rfl))
    (pss_one (ps_set (i := 2) sc_law_power.nd rfl (Or.inl rfl) (pe_op op_mulX (pv 2) (pv 0)))))
    (pss_one (ps_ret (pv 2))))), ?_⟩
    walk_at "g"
    refine for_range (fun i σ H' => H' = H ∧ ∃ v, σ = [some (.int b), some (.int m), some (.int (b ^ i)), v]) ⟨rfl, none, by rw [Int.pow_zero]; rfl⟩ ?_ ?_
    · rintro i σ H' hi ⟨rfl, v, rfl⟩
      walk_at "g"
      exact ⟨rfl, _, by rw [Int.pow_succ]; rfl⟩
    · rintro σ H' ⟨rfl, v, rfl⟩
      walk_at "g"
      exact h
-- @USE
local macro_rules | `(tactic| walk_at "c") => `(tactic| ((with_reducible refine use_law_power ?h1 ?h2); (case h1 => omega)))

/-! ### law_sum -/
-- @NEEDS Sum_init law_taken law_power law_weight
/-- few of them, and small -/
def SumSmall (f l : List Int) : Prop := f.length ≤ 5 ∧ (∀ w ∈ f, -20000 ≤ w ∧ w ≤ 20000) ∧ ∀ w ∈ l, -20000 ≤ w ∧ w ≤ 20000
def sp_law_sum (K : Frag) : Sp := fun vs H Q _ => ∃ (row sc : Addr) (o : HO) (ns : List Int) (d : Int), vs = [.ref row, .int d] ∧ H row = some o ∧ RowOk sc o ∧ SqL K H sc (ns.map V.int) ∧ (1 ≤ d ∧ d ≤ 30) ∧
  ∀ (b k : Int) (f l : List Int) (p p1 p2 : Addr) (o' : HO) (H' : Hp), SumOk b k f l → SumSmall f l → RowOk sc o' → Own (del1 H row) [(p, .lst [.int b, .int k, .ref p1, .ref p2]), (p2, .tup (l.map V.int)), (p1, .tup (f.map V.int)), (row, o')] H' → Q (.ref p) H'
theorem use_law_sum {K : Frag} {B H : Hp} {Lw : List (Addr × HO)} {row sc : Addr} {o : HO} {ns : List Int} {d : Int} {Q : VK} {E : XK} (O : Own B Lw H) (i : Nat) (hi : Lw[i]? = some (row, o)) (ho : RowOk sc o) (hs : SqL K B sc (ns.map V.int)) (hd : 1 ≤ d ∧ d ≤ 30)
    (h : ∀ (b k : Int) (f l : List Int) (p p1 p2 : Addr) (o' : HO) (H' : Hp), SumOk b k f l → SumSmall f l → RowOk sc o' → Own B ((p, .lst [.int b, .int k, .ref p1, .ref p2]) :: (p2, .tup (l.map V.int)) :: (p1, .tup (f.map V.int)) :: Lw.set i (row, o')) H' → Q (.ref p) H') : sp_law_sum K ([.ref row, .int d] ++ []) H Q E :=
  ⟨row, sc, o, ns, d, rfl, O.get i hi, ho, O.seq hs, hd, fun b k f l p p1 p2 o' H' so sm ok O2 => h b k f l p p1 p2 o' H' so sm ok (Own.comp (New := [_, _, _]) O i hi O2)⟩
theorem ok_law_sum (T : Txt K mg Z) : FnOk P w K mg base CX0 2 Z.f_law_sum Z.d_law_sum p_law_sum (sp_law_sum K) := by
  refine T.F_law_sum.ok sc_law_sum (fun vs H Q E h => ?_) (fun cdv A outer s H vs Q E hr h => ?_)
  · obtain ⟨_, _, _, _, _, rfl, _⟩ := h; rfl
  · obtain ⟨row, sc, o, ns, d, rfl, hrow, hok, hs, hd, h⟩ := h
    have hs := row_ne hrow hok hs
    have O := Own.refl1 hrow
    refine ⟨_, (pss_cons (ps_par (i := 2) (j := 3) (by rfl) sc_law_sum.nd rfl rfl (by decide) rfl rfl (pa_cons (pe_ix (r := rIxL K) ix_list (pe_lst (pa_cons pe_int (pa_cons pe_int (pa_cons pe_int (pa_cons pe_int (pa_cons (pe_op op_add pe_int (pe_call (ok_law_taken T) (hr.mono (by decide)) rfl T.g_law_taken T.F_law_taken.kp T.b_law_taken .nil pass0 (pa_cons (pv 0) (pa_cons pe_int pa_nil)))) pa_nil)))))) (pe_call (ok_law_taken T) (hr.mono (by decide)) rfl T.g_law_taken T.F_law_taken.kp T.b_law_taken .nil pass0 (pa_cons (pv 0) (pa_cons pe_int pa_nil))) (fun _ _ => rfl)) (pa_cons (pe_op op_add pe_int (pe_op op_mulX (pe_call (ok_law_taken T) (hr.mono (by decide)) rfl T.g_law_taken T.F_law_taken.kp T.b_law_taken .nil pass0 (pa_cons (pv 0) (pa_cons pe_int pa_nil))) (pe_call (ok_law_taken T) (hr.mono (by decide)) rfl T.g_law_taken T.F_law_taken.kp T.b_law_taken .nil pass0 (pa_cons (pv 0) (pa_cons pe_int pa_nil))))) pa_nil)) (by rfl))
    (pss_cons (ps_par (i := 4) (j := 5) (by rfl) sc_law_sum.nd rfl rfl (by decide) rfl rfl (pa_cons (pe_call (ok_law_power T) (hr.mono (by decide)) rfl T.g_law_power T.F_law_power.kp T.b_law_power .nil pass0 (pa_cons (pv 2) (pa_cons (pv 3) pa_nil))) (pa_cons (pe_call (ok_law_taken T) (hr.mono (by decide)) rfl T.g_law_taken T.F_law_taken.kp T.b_law_taken .nil pass0 (pa_cons (pv 0) (pa_cons pe_int pa_nil))) pa_nil)) (by rfl))
    (pss_cons (ps_setLc (i := 6) rfl sc_law_sum.nd rfl rfl (sw_true rfl rfl rfl (by decide +kernel)) (own := [("_law_k", 12)]) (tt := tYes) (pi_range1 rfl T.n_range (pa_cons (pe_call (ok_law_taken T) (hr.mono (by decide)) rfl T.g_law_taken T.F_law_taken.kp T.b_law_taken .nil pass0 (pa_cons (pv 0) (pa_cons pe_int pa_nil))) pa_nil)) (blkOk_by (N := N_law_sum) (sc := defScope s_law_sum) (by decide +kernel)) (fun _ _ _ _ _ => (pg_name (i := 12) sc_law_sum.nd rfl (Or.inl rfl))) (fun _ _ _ _ _ => pts_nil) (fun _ _ _ _ _ => (pe_op op_sub (pe_call (ok_law_taken T) (hr.mono (by decide)) rfl T.g_law_taken T.F_law_taken.kp T.b_law_taken .nil pass0 (pa_cons (pv 0) (pa_cons pe_int pa_nil))) pe_int)))
    (pss_cons (ps_setLc (i := 7) rfl sc_law_sum.nd rfl rfl (sw_true rfl rfl rfl (by decide +kernel)) (own := [("_law_k", 12)]) (tt := tYes) (pi_range1 rfl T.n_range (pa_cons (pe_op op_add pe_int (pe_call (ok_law_taken T) (hr.mono (by decide)) rfl T.g_law_taken T.F_law_taken.kp T.b_law_taken .nil pass0 (pa_cons (pv 0) (pa_cons pe_int pa_nil)))) pa_nil)) (blkOk_by (N := N_law_sum) (sc := defScope s_law_sum) (by decide +kernel)) (fun _ _ _ _ _ => (pg_name (i := 12) sc_law_sum.nd rfl (Or.inl rfl))) (fun _ _ _ _ _ => pts_nil) (fun _ _ _ _ _ => (pe_op op_sub (pe_call (ok_law_taken T) (hr.mono (by decide)) rfl T.g_law_taken T.F_law_taken.kp T.b_law_taken .nil pass0 (pa_cons (pv 0) (pa_cons pe_int pa_nil))) pe_int)))
    (C8.pss_cut (ps_if (pt_cmpR op_gt (pv 5) pe_int (nomark _)) (pss_cons (ps_par (i := 8) (j := 9) (by rfl) sc_law_sum.nd rfl rfl (by decide) rfl rfl (pa_cons (pe_lst pa_nil) (pa_cons (pe_op op_mod pe_int (pv 1)) pa_nil)) (by rfl))
    (C8.pss_cut (ps_while PassesOwn.never (PW.pt (pw_and (pt_cmpR (r := rIn K true) op_notIn_seq (pv 9) (pv 8) (by rfl)) (pw_and1 (pt_cmpR op_lt (pe_callB (r := R.rLen K) call_lenR (by rfl) T.n_len boot_len (pa_cons (pv 8) pa_nil)) pe_int (nomark _)))))
    (pss_cons (ps_expr (pe_bm PySem.F.plainAttrs_list PySem.F.slot_list_append PySem.F.type_list_append mt_append (pv 8) (pa_cons (pv 9) pa_nil)))
    (pss_one (ps_set (i := 9) sc_law_sum.nd rfl (Or.inl rfl) (pe_op op_mod (pe_op op_mulX (pv 9) (pv 4)) (pv 1))))))
    (C8.pss_cut (ps_set (i := 10) sc_law_sum.nd rfl (Or.inl rfl) (pe_ifExp (pt_cmpR (r := rIn K false) op_in_seq (pv 9) (pv 8) (by rfl)) (pe_bm PySem.F.plainAttrs_list PySem.F.slot_list_index PySem.F.type_list_index mt_index (pv 8) (pa_cons (pv 9) pa_nil)) pe_int))
    (pss_cons (ps_par (i := 6) (j := 7) (by rfl) sc_law_sum.nd rfl rfl (by decide) rfl rfl (pa_cons (pe_slice (r := rSlL K) sl_list (pv 8) po_none (po_some (pv 10))) (pa_cons (pe_slice (r := rSlL K) sl_list (pv 8) (po_some (pv 10)) po_none) pa_nil)) (by rfl))
    (C8.pss_cut (ps_if (pt_cmpR op_gt (pe_callB (r := R.rLen K) call_lenR (by rfl) T.n_len boot_len (pa_cons (pv 7) pa_nil)) pe_int (nomark _)) (pss_one (ps_set (i := 7) sc_law_sum.nd rfl (Or.inl rfl) (pe_slice (r := rSlL K) sl_list (pv 7) po_none (po_some pe_int)))) pss_nil)
    (C8.pss_cut (ps_set (i := 11) sc_law_sum.nd rfl (Or.inr rfl) (pe_ifExp (pt_cmpR op_eq (pv 5) pe_int (nomark _)) (pe_op op_add pe_int (pe_call (ok_law_taken T) (hr.mono (by decide)) rfl T.g_law_taken T.F_law_taken.kp T.b_law_taken .nil pass0 (pa_cons (pv 0) (pa_cons (pv 1) pa_nil)))) pe_int))
    (pss_cons (ps_setLc (i := 6) rfl sc_law_sum.nd rfl rfl (sw_true rfl rfl rfl (by decide +kernel)) (own := [("_law_weight", 13)]) (tt := tYes) (pi_list (pv 6)) (blkOk_by (N := N_law_sum) (sc := defScope s_law_sum) (by decide +kernel)) (fun _ _ _ _ _ => (pg_name (i := 13) sc_law_sum.nd rfl (Or.inl rfl))) (fun _ _ _ _ _ => pts_nil) (fun _ _ _ _ _ => (pe_op op_add (pe_op op_mulX (pv 13) (pv 11)) (pe_op op_mulX (pv 1) (pe_op op_sub (pe_call (ok_law_taken T) (hr.mono (by decide)) rfl T.g_law_taken T.F_law_taken.kp T.b_law_taken .nil pass0 (pa_cons (pv 0) (pa_cons pe_int pa_nil))) pe_int)))))
    (pss_cons (ps_setLc (i := 7) rfl sc_law_sum.nd rfl rfl (sw_true rfl rfl rfl (by decide +kernel)) (own := [("_law_weight", 13)]) (tt := tYes) (pi_list (pv 7)) (blkOk_by (N := N_law_sum) (sc := defScope s_law_sum) (by decide +kernel)) (fun _ _ _ _ _ => (pg_name (i := 13) sc_law_sum.nd rfl (Or.inl rfl))) (fun _ _ _ _ _ => pts_nil) (fun _ _ _ _ _ => (pe_op op_add (pe_op op_mulX (pv 13) (pv 11)) (pe_op op_mulX (pv 1) (pe_op op_sub (pe_call (ok_law_taken T) (hr.mono (by decide)) rfl T.g_law_taken T.F_law_taken.kp T.b_law_taken .nil pass0 (pa_cons (pv 0) (pa_cons pe_int pa_nil))) pe_int)))))
    (pss_one (ps_if (pt_cmpR op_eq (pv 5) pe_int (nomark _)) (pss_cons (ps_set (i := 10) sc_law_sum.nd rfl (Or.inl rfl) (pe_call (ok_law_taken T) (hr.mono (by decide)) rfl T.g_law_taken T.F_law_taken.kp T.b_law_taken .nil pass0 (pa_cons (pv 0) (pa_cons (pe_callB (r := R.rLen K) call_lenR (by rfl) T.n_len boot_len (pa_cons (pv 7) pa_nil)) pa_nil))))
    (pss_one (ps_asg (pe_op op_add (pe_ix (r := rIxL K) ix_list (pv 7) (pv 10) (fun _ _ => rfl)) pe_int) (pg_sub (pv 7) (pv 10) set_list)))) pss_nil)))))))))) pss_nil)
    (pss_one (ps_ret (pe_lst (pa_cons (pv 2) (pa_cons (pv 3) (pa_cons (pe_callTy (r := rTupOf K) call_tupR (by rfl) T.n_tuple boot_tuple (pa_cons (pv 6) pa_nil)) (pa_cons (pe_callTy (r := rTupOf K) call_tupR (by rfl) T.n_tuple boot_tuple (pa_cons (pv 7) pa_nil)) pa_nil)))))))))))), ?_⟩
    walk_at "g"
    refine use_law_taken O 0 rfl hok hs (by omega) (fun y o H1 hy0 hy1 hok O => ?_)
    walk_at "g"; walk_at "mkL"; intro p H2 hp O
    walk_at "g"
    refine use_law_taken O 1 rfl hok hs (by omega) (fun z o H3 hz0 hz1 hok O => ?_)
    walk_at "g"
    refine a_ixM (ms := [10, 2, 3, 6, 2 + y]) O 0 rfl hz0 hz1 (fun b hb => ?_)
    have hb : 2 ≤ b ∧ b ≤ 16 := by
      simp only [List.mem_cons, List.not_mem_nil, or_false] at hb
      omega
    replace O := O.tail
    walk_at "g"
    refine use_law_taken O 0 rfl hok hs (by omega) (fun x1 o H3 hx0 hx1 hok O => ?_)
    walk_at "g"
    refine use_law_taken O 0 rfl hok hs (by omega) (fun x2 o H3 hw0 hw1 hok O => ?_)
    have hk : 1 ≤ 1 + x1 * x2 ∧ 1 + x1 * x2 ≤ 2 := by
      rcases (show x1 = 0 ∨ x1 = 1 by omega) with z | z
      · rw [z, Int.zero_mul]; omega
      · rw [z, Int.one_mul]; omega
    walk_at "g"
    generalize 1 + x1 * x2 = k at *
    walk_at "g"
    refine use_law_taken O 0 rfl hok hs (by omega) (fun kind o H3 hq0 hq1 hok O => ?_)
    walk_at "g"
    refine use_law_taken O 0 rfl hok hs (by omega) (fun n1 o H3 hn0 hn1 hok O => ?_)
    walk_at "g"
    intro D hD
    replace O := Own.new (o := .lst []) O hD
    refine lc_range (fun i H' => ∃ (fs : List Int) (o : HO), RowOk sc o ∧ (∀ w ∈ fs, -4 ≤ w ∧ w ≤ 4) ∧ fs.length = i ∧ Own (del1 H row) [(D, .lst (fs.map V.int)), (row, o)] H') ⟨[], o, hok, fun _ h => by simp at h, rfl, O⟩ ?_ ?_
    · clear O hok
      rintro i H' hi ⟨fs, o, hok, hf, hfl, O⟩
      walk_at "g"
      refine ⟨rfl, ?_⟩
      walk_at "g"
      refine use_law_taken O 1 rfl hok hs (by omega) (fun w o H2 hw0 hw1 hok O => ?_)
      walk_at "g"
      refine ⟨_, Own.get O 0 rfl, ?_, ?_⟩
      · rw [List.length_map]
        exact Nat.lt_of_lt_of_le (show fs.length < 1000 by omega) (by decide)
      · replace O := Own.put (u := .lst (fs.map V.int ++ [.int (w - 4)])) O 0 rfl
        refine ⟨fs ++ [w - 4], o, hok, fun v hv => ?_, by rw [List.length_append, hfl]; rfl, ?_⟩
        · rcases List.mem_append.mp hv with z | z
          · exact hf v z
          · have z : v = w - 4 := by simpa using z
            omega
        · rw [List.map_append]
          exact O
    clear O hok
    rintro H' ⟨fs, o, hok, hf, hfl, O⟩
    walk_at "g"
    refine use_law_taken O 1 rfl hok hs (by omega) (fun n2 o H3 hm0 hm1 hok O => ?_)
    walk_at "g"
    intro D2 hD2
    replace O := Own.new (o := .lst []) O hD2
    refine lc_range (fun i H' => ∃ (ls : List Int) (o : HO), RowOk sc o ∧ (∀ w ∈ ls, -4 ≤ w ∧ w ≤ 4) ∧ ls.length = i ∧ Own (del1 H row) [(D2, .lst (ls.map V.int)), (D, .lst (fs.map V.int)), (row, o)] H') ⟨[], o, hok, fun _ h => by simp at h, rfl, O⟩ ?_ ?_
    · clear O hok
      rintro i H' hi ⟨ls, o, hok, hl, hll, O⟩
      walk_at "g"
      refine ⟨rfl, ?_⟩
      walk_at "g"
      refine use_law_taken O 2 rfl hok hs (by omega) (fun w o H2 hw0 hw1 hok O => ?_)
      walk_at "g"
      refine ⟨_, Own.get O 0 rfl, ?_, ?_⟩
      · rw [List.length_map]
        exact Nat.lt_of_lt_of_le (show ls.length < 1000 by omega) (by decide)
      · replace O := Own.put (u := .lst (ls.map V.int ++ [.int (w - 4)])) O 0 rfl
        refine ⟨ls ++ [w - 4], o, hok, fun v hv => ?_, by rw [List.length_append, hll]; rfl, ?_⟩
        · rcases List.mem_append.mp hv with z | z
          · exact hl v z
          · have z : v = w - 4 := by simpa using z
            omega
        · rw [List.map_append]
          exact O
    clear O hok
    rintro H' ⟨ls, o, hok, hl, hll, O⟩
    walk_at "g"
    refine ⟨fun σ H' => ∃ (fs ls : List Int) (D D2 : Addr) (o : HO) (v4 v5 v8 v9 v10 v11 v12 v13 : Option V), σ = [some (.ref row), some (.int d), some (.int b), some (.int k), v4, v5, some (.ref D), some (.ref D2), v8, v9, v10, v11, v12, v13] ∧
      SumOk b k fs ls ∧ SumSmall fs ls ∧ RowOk sc o ∧ Own (del1 H row) [(D2, .lst (ls.map V.int)), (D, .lst (fs.map V.int)), (row, o)] H', ?_, ?_⟩
    · walk_at "g"
      refine a_it2 (fun c => ?_) (fun c => ?_)
      · obtain ⟨dn, rfl⟩ : ∃ n : Nat, d = (n : Int) := ⟨d.toNat, by omega⟩
        have hB0 : 0 ≤ b ^ k.toNat := Int.pow_nonneg (by omega)
        obtain ⟨B, hB⟩ : ∃ B : Nat, b ^ k.toNat = (B : Int) := ⟨(b ^ k.toNat).toNat, by omega⟩
        have hdn : 0 < dn := by omega
        rw [hB]
        walk_at "g"; walk_at "mkL"; intro S H2 hS O
        walk_at "g"
        refine ⟨fun σ H' => ∃ (i : Nat) (v10 v11 v12 v13 : Option V), i ≤ 20 ∧ (∀ a c, a < c → c < i → pw B dn a ≠ pw B dn c) ∧ (((pw B dn i : Nat) : Int) ∈ PL B dn i ∨ i = 20) ∧
          σ = [some (.ref row), some (.int dn), some (.int b), some (.int k), some (.int B), some (.int kind), some (.ref D), some (.ref D2), some (.ref S), some (.int ((pw B dn i : Nat) : Int)), v10, v11, v12, v13] ∧
          Own (del1 H row) [(S, .lst ((PL B dn i).map V.int)), (row, o)] H', ?_, ?_⟩
        · refine a_while (fun m σ H' => ∃ (i : Nat) (v10 v11 v12 v13 : Option V), i ≤ 20 ∧ m = 20 - i ∧ (∀ a c, a < c → c < i → pw B dn a ≠ pw B dn c) ∧
            σ = [some (.ref row), some (.int dn), some (.int b), some (.int k), some (.int B), some (.int kind), some (.ref D), some (.ref D2), some (.ref S), some (.int ((pw B dn i : Nat) : Int)), v10, v11, v12, v13] ∧
            Own (del1 H row) [(S, .lst ((PL B dn i).map V.int)), (row, o)] H') ⟨20, 0, _, _, _, _, by omega, rfl, fun a c _ h => absurd h (Nat.not_lt_zero c), rfl, O.less (.cons₂ _ (.cons _ (.cons _ (List.Sublist.refl _))))⟩ ?_
          clear O
          rintro m σ H' ⟨i, v10, v11, v12, v13, hi, rfl, dis, rfl, O⟩
          have hlt := pw_lt (B := B) hdn i
          walk_at "g"
          refine a_ninI (Own.sq O 0 rfl) ?_
          walk_at "g"
          refine a_ni2 (fun c1 => ?_) (fun c1 => ?_)
          · walk_at "g"
            exact ⟨i, _, _, _, _, hi, dis, .inl c1, rfl, O⟩
          · walk_at "g"
            rw [List.length_map, PL_len]
            walk_at "g"
            refine a_it2 (fun c2 => ?_) (fun c2 => ?_)
            · walk_at "g"
              refine a_turn ?_
              walk_at "g"
              refine ⟨.inl ⟨rfl, _, Own.sq O 0 rfl⟩, ?_⟩
              walk_at "g"
              refine a_app O 0 rfl (by rw [List.length_map, PL_len]; omega) (fun H3 O3 => ?_)
              walk_at "g"
              refine ⟨20 - (i + 1), by omega, i + 1, _, _, _, _, by omega, rfl, fun a c hac hc e => ?_, rfl, ?_⟩
              · by_cases z : c = i
                · subst z
                  exact c1 (List.mem_of_getElem? (by rw [PL_at hac, e]))
                · exact dis a c hac (by omega) e
              · rw [PL_succ, List.map_append]
                exact O3
            · walk_at "g"
              exact ⟨i, _, _, _, _, hi, dis, .inr (by omega), rfl, O⟩
        · clear O
          rintro σ H' ⟨i, v10, v11, v12, v13, hi, dis, hend, rfl, O⟩
          walk_at "g"
          refine ⟨fun σ H' => ∃ (n at' : Nat) (ms : List Int) (v9 v11 v12 v13 : Option V), at' ≤ 5 ∧ at' < ms.length ∧ ms.length ≤ 20 ∧ (∀ w ∈ ms, 0 ≤ w ∧ w < (dn : Int)) ∧
            σ = [some (.ref row), some (.int dn), some (.int b), some (.int k), some (.int B), some (.int kind), some (.ref D), some (.ref D2), some (.ref S), v9, some (.int (at' : Int)), v11, v12, v13] ∧
            Own (del1 H row) [(S, .lst (ms.map V.int)), (row, o)] H', ?_, ?_⟩
          · walk_at "g"
            refine a_inI (Own.sq O 0 rfl) ?_
            walk_at "g"
            refine a_it2 (fun c1 => ?_) (fun c1 => ?_)
            · walk_at "g"
              obtain ⟨j, hj1, hj2⟩ := first_in c1
              refine ⟨.inl ⟨rfl, _, Own.sq O 0 rfl⟩, ?_⟩
              walk_at "g"
              refine a_indexI (Own.sq O 0 rfl) hj1 hj2 ?_
              walk_at "g"
              have hji : j < i := by
                have z := (List.getElem?_eq_some_iff.mp hj1).1
                rw [PL_len] at z; exact z
              have e : pw B dn j = pw B dn i := by
                rw [PL_at hji] at hj1
                have z := Option.some.inj hj1
                omega
              exact ⟨0, j, PL B dn i, _, _, _, _, few (by omega) hdn hi hji e dis, by rw [PL_len]; exact hji, by rw [PL_len]; exact hi, fun w hw => PL_bd hdn hw, rfl, O⟩
            · walk_at "g"
              have e : i = 20 := hend.resolve_left c1
              exact ⟨0, 0, PL B dn i, _, _, _, _, by omega, by rw [PL_len]; omega, by rw [PL_len]; exact hi, fun w hw => PL_bd hdn hw, rfl, O⟩
          · clear O
            rintro σ H' ⟨_, at', ms, v9, v11, v12, v13, hat, hatl, hml, hms, rfl, O⟩
            walk_at "g"
            refine a_slTo (k := at') rfl O (Own.sq O 0 rfl) (fun F H4 hF O => ?_)
            walk_at "g"
            refine a_slFrom (k := at') rfl O (Own.sq O 1 rfl) (fun L H5 hL O => ?_)
            walk_at "g"
            refine ⟨fun σ H' => ∃ (L : Addr) (fs ls : List Int) (v8 v9 v10 v11 v12 v13 : Option V), fs.length ≤ 5 ∧ 1 ≤ ls.length ∧ ls.length ≤ 12 ∧ (∀ w ∈ fs, 0 ≤ w ∧ w < (dn : Int)) ∧ (∀ w ∈ ls, 0 ≤ w ∧ w < (dn : Int)) ∧
              σ = [some (.ref row), some (.int dn), some (.int b), some (.int k), some (.int B), some (.int kind), some (.ref F), some (.ref L), v8, v9, v10, v11, v12, v13] ∧
              Own (del1 H row) [(L, .lst (ls.map V.int)), (F, .lst (fs.map V.int)), (row, o)] H', ?_, ?_⟩
            · walk_at "g"
              rw [List.length_map, List.length_drop]
              walk_at "g"
              have hf : (ms.take at').length ≤ 5 := by rw [List.length_take]; omega
              refine a_it2 (fun c1 => ?_) (fun c1 => ?_)
              · walk_at "g"
                refine a_slTo (k := 12) rfl O (Own.sq O 0 rfl) (fun L2 H6 hL2 O => ?_)
                walk_at "g"
                exact ⟨L2, ms.take at', (ms.drop at').take 12, _, _, _, _, _, _, hf, by rw [List.length_take, List.length_drop]; omega, by rw [List.length_take]; omega,
                  fun w hw => hms w (List.mem_of_mem_take hw), fun w hw => hms w (List.mem_of_mem_drop (List.mem_of_mem_take hw)), rfl, O.less (.cons₂ _ (.cons _ (.cons₂ _ (.cons _ (List.Sublist.refl _)))))⟩
              · walk_at "g"
                exact ⟨L, ms.take at', ms.drop at', _, _, _, _, _, _, hf, by rw [List.length_drop]; omega, by rw [List.length_drop]; omega,
                  fun w hw => hms w (List.mem_of_mem_take hw), fun w hw => hms w (List.mem_of_mem_drop hw), rfl, O.less (.cons₂ _ (.cons₂ _ (.cons _ (List.Sublist.refl _))))⟩
            · clear O
              rintro σ H' ⟨L, fs, ls, v8, v9, v10, v11, v12, v13, hfl, hl1, hl2, hfs, hls, rfl, O⟩
              walk_at "g"
              refine ⟨fun σ H' => ∃ (u : Int) (o : HO) (v8 v9 v10 v12 v13 : Option V), (1 ≤ u ∧ u ≤ 30) ∧ RowOk sc o ∧
                σ = [some (.ref row), some (.int dn), some (.int b), some (.int k), some (.int B), some (.int kind), some (.ref F), some (.ref L), v8, v9, v10, some (.int u), v12, v13] ∧
                Own (del1 H row) [(L, .lst (ls.map V.int)), (F, .lst (fs.map V.int)), (row, o)] H', ?_, ?_⟩
              · walk_at "g"
                refine a_it2 (fun c1 => ?_) (fun c1 => ?_)
                · walk_at "g"
                  refine use_law_taken O 2 rfl hok hs (by omega) (fun u o H3 hu0 hu1 hok O => ?_)
                  walk_at "g"
                  exact ⟨1 + u, o, _, _, _, _, _, by omega, hok, rfl, O⟩
                · walk_at "g"
                  exact ⟨1, o, _, _, _, _, _, by omega, hok, rfl, O⟩
              · clear O hok
                rintro σ H' ⟨u, o, v8, v9, v10, v12, v13, hu, hok, rfl, O⟩
                have wbd : ∀ w x : Int, 0 ≤ w → w < dn → 0 ≤ x → x < 3 → -(10 ^ 4) ≤ w * u + (dn : Int) * (x - 1) ∧ w * u + (dn : Int) * (x - 1) ≤ 10 ^ 4 := fun w x h1 h2 h3 h4 => by
                  have e1 : 0 ≤ w * u := Int.mul_nonneg h1 (by omega)
                  have e2 : w * u ≤ 30 * 30 := Int.mul_le_mul (by omega) hu.2 (by omega) (by omega)
                  have e3 : x = 0 ∨ x = 1 ∨ x = 2 := by omega
                  rcases e3 with e3 | e3 | e3 <;> subst e3 <;> omega
                walk_at "g"
                refine ⟨F, rfl, ⟨_, Own.sq O 1 rfl⟩, fun D3 hD3 => ?_⟩
                replace O := Own.new (o := .lst []) O hD3
                refine lc_list (xs := fs.map V.int) (fun i H' => ∃ (gs : List Int) (o : HO), RowOk sc o ∧ (∀ w ∈ gs, -(10 ^ 4) ≤ w ∧ w ≤ 10 ^ 4) ∧ gs.length = i ∧ Own (del1 H row) [(D3, .lst (gs.map V.int)), (L, .lst (ls.map V.int)), (F, .lst (fs.map V.int)), (row, o)] H') ⟨[], o, hok, fun _ h => by simp at h, rfl, O⟩ (fun i H' _ ⟨_, _, _, _, _, O⟩ => Own.sq O 2 rfl) ?_ ?_
                · clear O hok
                  rintro i x H' hi ⟨gs, o, hok, hg, hgl, O⟩
                  rw [List.getElem?_map] at hi
                  obtain ⟨w, hw, rfl⟩ := Option.map_eq_some_iff.mp hi
                  have hwm := hfs w (List.mem_of_getElem? hw)
                  have hil := (List.getElem?_eq_some_iff.mp hw).1
                  walk_at "g"
                  refine ⟨rfl, ?_⟩
                  walk_at "g"
                  refine use_law_taken O 3 rfl hok hs (by omega) (fun y o H2 hy0 hy1 hok O => ?_)
                  walk_at "g"
                  refine ⟨_, Own.get O 0 rfl, ?_, ?_⟩
                  · rw [List.length_map]
                    exact Nat.lt_of_lt_of_le (show gs.length < 1000 by omega) (by decide)
                  · replace O := Own.put (u := .lst (gs.map V.int ++ [.int (w * u + (dn : Int) * (y - 1))])) O 0 rfl
                    refine ⟨gs ++ [w * u + (dn : Int) * (y - 1)], o, hok, fun v hv => ?_, by rw [List.length_append, hgl]; rfl, ?_⟩
                    · rcases List.mem_append.mp hv with z | z
                      · exact hg v z
                      · have z : v = w * u + (dn : Int) * (y - 1) := by simpa using z
                        rw [z]; exact wbd w y hwm.1 hwm.2 hy0 hy1
                    · rw [List.map_append]
                      exact O
                clear O hok
                rw [List.length_map]
                rintro H' ⟨gs, o, hok, hg, hgl, O⟩
                replace O := O.less (Lw' := [(D3, .lst (gs.map V.int)), (L, .lst (ls.map V.int)), (row, o)]) (.cons₂ _ (.cons₂ _ (.cons _ (List.Sublist.refl _))))
                walk_at "g"
                refine ⟨L, rfl, ⟨_, Own.sq O 1 rfl⟩, fun D4 hD4 => ?_⟩
                replace O := Own.new (o := .lst []) O hD4
                refine lc_list (xs := ls.map V.int) (fun i H' => ∃ (es : List Int) (o : HO), RowOk sc o ∧ (∀ w ∈ es, -(10 ^ 4) ≤ w ∧ w ≤ 10 ^ 4) ∧ es.length = i ∧ Own (del1 H row) [(D4, .lst (es.map V.int)), (D3, .lst (gs.map V.int)), (L, .lst (ls.map V.int)), (row, o)] H') ⟨[], o, hok, fun _ h => by simp at h, rfl, O⟩ (fun i H' _ ⟨_, _, _, _, _, O⟩ => Own.sq O 2 rfl) ?_ ?_
                · clear O hok
                  rintro i x H' hi ⟨es, o, hok, he, hel, O⟩
                  rw [List.getElem?_map] at hi
                  obtain ⟨w, hw, rfl⟩ := Option.map_eq_some_iff.mp hi
                  have hwm := hls w (List.mem_of_getElem? hw)
                  have hil := (List.getElem?_eq_some_iff.mp hw).1
                  walk_at "g"
                  refine ⟨rfl, ?_⟩
                  walk_at "g"
                  refine use_law_taken O 3 rfl hok hs (by omega) (fun y o H2 hy0 hy1 hok O => ?_)
                  walk_at "g"
                  refine ⟨_, Own.get O 0 rfl, ?_, ?_⟩
                  · rw [List.length_map]
                    exact Nat.lt_of_lt_of_le (show es.length < 1000 by omega) (by decide)
                  · replace O := Own.put (u := .lst (es.map V.int ++ [.int (w * u + (dn : Int) * (y - 1))])) O 0 rfl
                    refine ⟨es ++ [w * u + (dn : Int) * (y - 1)], o, hok, fun v hv => ?_, by rw [List.length_append, hel]; rfl, ?_⟩
                    · rcases List.mem_append.mp hv with z | z
                      · exact he v z
                      · have z : v = w * u + (dn : Int) * (y - 1) := by simpa using z
                        rw [z]; exact wbd w y hwm.1 hwm.2 hy0 hy1
                    · rw [List.map_append]
                      exact O
                clear O hok
                rw [List.length_map]
                rintro H' ⟨es, o, hok, he, hel, O⟩
                replace O := O.less (Lw' := [(D4, .lst (es.map V.int)), (D3, .lst (gs.map V.int)), (row, o)]) (.cons₂ _ (.cons₂ _ (.cons _ (List.Sublist.refl _))))
                walk_at "g"
                refine a_it2 (fun c1 => ?_) (fun c1 => ?_)
                · walk_at "g"
                  rw [List.length_map, hel]
                  walk_at "g"
                  refine use_law_taken O 2 rfl hok hs (by omega) (fun y o H2 hy0 hy1 hok O => ?_)
                  have hyl : y.toNat < es.length := by omega
                  walk_at "g"
                  refine a_ixI O 0 rfl hy0 hyl ?_
                  walk_at "g"
                  refine a_setL (j := y.toNat) O 0 rfl (by unfold ixN; rw [if_pos hy0, if_pos (by rw [List.length_map]; omega)]) (fun H3 O => ?_)
                  walk_at "g"
                  refine ⟨gs, es.set y.toNat (es[y.toNat] + 1), D3, D4, o, _, _, _, _, _, _, _, _, rfl, ⟨hb, hk, by omega, by rw [List.length_set]; omega, fun w hw => (by have := hg w hw; omega), fun w hw => ?_⟩, ⟨by omega, fun w hw => (by have := hg w hw; omega), fun w hw => ?_⟩, hok, ?_⟩
                  · rcases List.mem_or_eq_of_mem_set hw with z | z
                    · have := he w z; omega
                    · have := he _ (List.getElem_mem hyl); omega
                  · rcases List.mem_or_eq_of_mem_set hw with z | z
                    · have := he w z; omega
                    · have := he _ (List.getElem_mem hyl); omega
                  · rw [List.map_set]
                    exact O
                · walk_at "g"
                  exact ⟨gs, es, D3, D4, o, _, _, _, _, _, _, _, _, rfl, ⟨hb, hk, by omega, by omega, fun w hw => (by have := hg w hw; omega), fun w hw => (by have := he w hw; omega)⟩, ⟨by omega, fun w hw => (by have := hg w hw; omega), fun w hw => (by have := he w hw; omega)⟩, hok, O⟩
      · walk_at "g"
        exact ⟨fs, ls, D, D2, o, _, _, _, _, _, _, _, _, rfl, ⟨hb, hk, by omega, by omega, fun w hw => (by have := hf w hw; omega), fun w hw => (by have := hl w hw; omega)⟩, ⟨by omega, fun w hw => (by have := hf w hw; omega), fun w hw => (by have := hl w hw; omega)⟩, hok, O⟩
    · clear O hok hl hll hf hfl
      rintro σ H' ⟨fs, ls, D, D2, o, v4, v5, v8, v9, v10, v11, v12, v13, rfl, so, sm, hok, O⟩
      walk_at "g"
      refine ⟨D, _, rfl, .inl ⟨Own.sq O 1 rfl, fun t1 ht1 => ?_⟩⟩
      replace O := Own.new (o := .tup (fs.map V.int)) O ht1
      walk_at "g"
      refine ⟨D2, _, rfl, .inl ⟨Own.sq O 1 rfl, fun t2 ht2 => ?_⟩⟩
      replace O := Own.new (o := .tup (ls.map V.int)) O ht2
      walk_at "g"; walk_at "mkL"; intro r H5 hr5 O
      exact h b k fs ls r t1 t2 o H5 so sm hok (O.less (.cons₂ _ (.cons₂ _ (.cons₂ _ (.cons _ (.cons _ (List.Sublist.refl _)))))))

/-! ### law_refused -/
-- @NEEDS Sum_init Sum_init_x
def RefRes (H : Hp) (o : SOut) (Q : VK) : Prop := match o with
  | .base => ∀ H', Same H H' → Q (.str "base") H'
  | .take => ∀ H', Same H H' → Q (.str "take") H'
  | .at r => ∀ p H', Same H H' → H p = none → H' p = some (.lst [r]) → Q (.ref p) H'
def sp_law_refused (K : Frag) : Sp := fun vs H Q _ => ∃ (b k f l : V) (o : SOut), vs = [b, k, f, l] ∧ SBad K H b k f l o ∧ RefRes H o Q
theorem use_ref {B H : Hp} {Lw : List (Addr × HO)} {b k f l : V} {Q : VK} {E : XK} {o : SOut} (O : Own B Lw H) (hv : SBad K H b k f l o)
    (h : match o with | .base => ∀ H', Own B Lw H' → Q (.str "base") H' | .take => ∀ H', Own B Lw H' → Q (.str "take") H' | .at r => ∀ p H', Own B ((p, .lst [r]) :: Lw) H' → Q (.ref p) H') : sp_law_refused K ([b, k, f, l] ++ []) H Q E := by
  refine ⟨b, k, f, l, o, rfl, hv, ?_⟩
  cases o with
  | base => exact fun H' s => h H' (O.same s)
  | take => exact fun H' s => h H' (O.same s)
  | «at» v => exact fun p H' s hp hp' => h p H' (O.got s hp hp')
theorem ok_law_refused (T : Txt K mg Z) : FnOk P w K mg base CX0 6 Z.f_law_refused Z.d_law_refused p_law_refused (sp_law_refused K) := by
  refine T.F_law_refused.ok sc_law_refused (fun vs H Q E h => ?_) (fun cdv A outer s H vs Q E hr h => ?_)
  · obtain ⟨_, _, _, _, _, rfl, _⟩ := h; rfl
  · obtain ⟨b, k, f, l, o, rfl, hv, h⟩ := h
    have O := Own.refl H
    refine ⟨_, (pss_cons (ps_set (i := 4) sc_law_refused.nd rfl (Or.inl rfl) pe_non)
    (pss_cons (ps_try_mix rfl rfl sc_law_refused.nd takes0 (fun W pn xe tk po => (pss_one (ps_expr (pe_makeS T.M_Sum (okX_Sum_init T) (hr.mono (by decide)) rfl T.g_Sum T.b_Sum_init .nil (fun σ => passAt tk σ) (pa_cons (pv 0) (pa_cons (pv 1) (pa_cons (pv 2) (pa_cons (pv 3) pa_nil))))))))
    (HdsX.cons ⟨rfl, by decide, Or.inl T.g_BadBase⟩
      (fun a oe cls d pn hz hf => (pss_one (ps_set (i := 4) sc_law_refused.nd rfl (Or.inl rfl) pe_str))) (HdsX.cons ⟨rfl, by decide, Or.inl T.g_BadTake⟩
      (fun a oe cls d pn hz hf => (pss_one (ps_set (i := 4) sc_law_refused.nd rfl (Or.inl rfl) pe_str))) (HdsX.as (i := 5) rfl rfl ⟨rfl, by decide, Or.inl T.g_BadWeights⟩
      (fun a oe cls d pn hz hf => (pss_one (ps_set (i := 4) sc_law_refused.nd rfl (Or.inl rfl) (pe_lst (pa_cons (pe_xf T.xf_BadWeights T.nx_BadWeights_index hz hf (pv 5)) pa_nil))))) HdsX.nil))))
    (pss_one (ps_ret (pv 4))))), ?_⟩
    walk_at "g"
    intro x dx hx hdx ne
    have O1 := Own.new (o := .own x) O hdx
    have hx1 : upd H dx (.own x) x = none := by rw [upd_ne ne.symm]; exact hx
    replace O := Own.new (o := .ins Z.c_Sum dx []) O1 hx1
    refine ⟨_, b, k, f, l, o, rfl, hv.same O.st, ?_⟩
    cases o with
    | base =>
      show wEx _ _ _ _ _ _ _ _
      refine a_exYes T.em_BadBase_BadBase (fun a ha => ?_)
      walk_at "g"
      exact h _ O.st
    | take =>
      show wEx _ _ _ _ _ _ _ _
      refine a_exNo T.em_BadTake_BadBase (a_exYes T.em_BadTake_BadTake (fun a ha => ?_))
      walk_at "g"
      exact h _ O.st
    | «at» r =>
      intro d H1 s1 hd
      show wEx _ _ _ _ _ _ _ _
      refine a_exNo T.em_BadWeights_BadBase (a_exNo T.em_BadWeights_BadTake (a_exYes T.em_BadWeights_BadWeights (fun a ha => ?_)))
      have O := Own.new (o := .xd [("index", r)]) (O.same s1) hd
      walk_at "g"
      refine ⟨rfl, rfl, d, _, _, rfl, upd_same, lk_eq, ?_⟩
      walk_at "g"; walk_at "mkL"; intro q H3 hq O2
      walk_at "g"
      exact h q H3 O2.st (O.free hq) (O2.get 0 rfl)

/-! ### law_unsummed -/
-- @NEEDS Sum_init
def sp_law_unsummed (K : Frag) : Sp := fun vs H Q _ => ∃ (kind : Int) (v : V), vs = [.int kind, v] ∧ (0 ≤ kind ∧ kind < 4) ∧ NoI K H v ∧ ∀ H', Same H H' → Q (.bl true) H'
theorem ok_law_unsummed (T : Txt K mg Z) : FnOk P w K mg base CX0 5 Z.f_law_unsummed Z.d_law_unsummed p_law_unsummed (sp_law_unsummed K) := by
  refine T.F_law_unsummed.ok sc_law_unsummed (fun vs H Q E h => ?_) (fun cdv A outer s H vs Q E hr h => ?_)
  · obtain ⟨_, _, rfl, _⟩ := h; rfl
  · obtain ⟨kind, v, rfl, ⟨hk0, hk1⟩, hv, h⟩ := h
    have O := Own.refl H
    refine ⟨_, (pss_cons (ps_set (i := 2) sc_law_unsummed.nd rfl (Or.inl rfl) pe_bl)
    (pss_cons (ps_try_mix rfl rfl sc_law_unsummed.nd takes0 (fun W pn xe tk po => (pss_one (ps_expr (pe_callV (k := 4) (held_cons (f := Z.f_sum_fails) (sp := sp_x_sum_fails K Z) ((heldX (okX_sum_fails T) T.F_sum_fails.kp T.b_sum_fails).mono (k := 4) (by decide)) (held_cons (f := Z.f_sum_rest_fails) (sp := sp_x_sum_rest_fails K Z) ((heldX (okX_sum_rest_fails T) T.F_sum_rest_fails.kp T.b_sum_rest_fails).mono (k := 4) (by decide)) (held_cons (f := Z.f_sum_tells) (sp := sp_x_sum_tells K Z) ((heldX (okX_sum_tells T) T.F_sum_tells.kp T.b_sum_tells).mono (k := 4) (by decide)) (held_cons (f := Z.f_total) (sp := sp_x_total K Z) ((heldX (okX_total T) T.F_total.kp T.b_total).mono (k := 4) (by decide)) held_nil)))) (hr.mono (by decide)) (fun σ => passAt tk σ) (pe_ix (r := rIxL K) ix_list (pe_lst (pa_cons (pe_glob rfl T.g_sum_fails (v := .ref Z.f_sum_fails) rfl) (pa_cons (pe_glob rfl T.g_sum_rest_fails (v := .ref Z.f_sum_rest_fails) rfl) (pa_cons (pe_glob rfl T.g_sum_tells (v := .ref Z.f_sum_tells) rfl) (pa_cons (pe_glob rfl T.g_total (v := .ref Z.f_total) rfl) pa_nil))))) (pv 0) (fun _ _ => rfl)) (pa_cons (pv 1) (pa_cons pe_non pa_nil))))))
    (HdsX.cons ⟨rfl, by decide, Or.inl T.g_BadSum⟩
      (fun a oe cls d pn hz hf => (pss_one (ps_set (i := 2) sc_law_unsummed.nd rfl (Or.inl rfl) pe_bl))) HdsX.nil))
    (pss_one (ps_ret (pv 2))))), ?_⟩
    walk_at "g"; walk_at "mkL"; intro p H1 hp O
    walk_at "g"
    rcases (by omega : kind = 0 ∨ kind = 1 ∨ kind = 2 ∨ kind = 3) with rfl | rfl | rfl | rfl
    all_goals
      walk_at "g"
      walk_at "callV"
      refine ⟨_, _, rfl, .inl ⟨hv.same O.st, ?_⟩⟩
      show wEx _ _ _ _ _ _ _ _
      refine a_exYes T.em_BadSum_BadSum (fun a ha => ?_)
      walk_at "g"
      exact h _ O.st

/-! ### law -/
-- @NEEDS Sum_init Sum_init_x
def sp_law (K : Frag) : Sp := fun vs H Q _ => ∃ (a : Addr) (ns : List Int), vs = [.ref a] ∧ SqL K H a (ns.map V.int) ∧ ns.length ≤ 63 ∧ ∀ H', Q (.bl true) H'
theorem ok_law (T : Txt K mg Z) : FnOk P w K mg base CX0 7 Z.f_law Z.d_law p_law (sp_law K) := by
  refine T.F_law.ok sc_law (fun vs H Q E h => ?_) (fun cdv A outer s H vs Q E hr h => ?_)
  · obtain ⟨_, _, rfl, _⟩ := h; rfl
  · obtain ⟨a, ns, rfl, hS, hlen, h⟩ := h
    have O := Own.refl H
    refine ⟨_, (pss_cons (ps_set (i := 1) sc_law.nd rfl (Or.inl rfl) (pe_lst (pa_cons (pv 0) (pa_cons pe_int (pa_cons pe_int (pa_cons pe_int pa_nil))))))
    (pss_cons (ps_for PassesOwn.never rfl (pi_range1 rfl T.n_range (pa_cons pe_int pa_nil)) (pg_name (i := 2) sc_law.nd rfl (Or.inl rfl))
    (pss_cons (ps_asg (pe_call (ok_law_sum T) (hr.mono (by decide)) rfl T.g_law_sum T.F_law_sum.kp T.b_law_sum .nil pass0 (pa_cons (pv 1) (pa_cons (pe_op op_add pe_int (pe_call (ok_law_taken T) (hr.mono (by decide)) rfl T.g_law_taken T.F_law_taken.kp T.b_law_taken .nil pass0 (pa_cons (pv 1) (pa_cons pe_int pa_nil)))) pa_nil))) (pg_lst rfl (pgs_cons (pg_name (i := 3) sc_law.nd rfl (Or.inl rfl)) (pgs_cons (pg_name (i := 4) sc_law.nd rfl (Or.inl rfl)) (pgs_cons (pg_name (i := 5) sc_law.nd rfl (Or.inl rfl)) (pgs_cons (pg_name (i := 6) sc_law.nd rfl (Or.inl rfl)) pgs_nil))))))
    (pss_cons (ps_set (i := 7) sc_law.nd rfl (Or.inl rfl) (pe_make T.M_Sum (ok_Sum_init T) (hr.mono (by decide)) rfl T.g_Sum T.b_Sum_init .nil pass0 (pa_cons (pv 3) (pa_cons (pv 4) (pa_cons (pv 5) (pa_cons (pv 6) pa_nil))))))
    (pss_cons (ps_if (PW.pt (pw_or (pt_cmpR op_ne (pe_prop (pv 7) T.cl_Sum T.pr_Sum_base (ok_Sum_base T) (hr.mono (by decide)) T.b_Sum_base .nil pass0 rfl) (pv 3) (nomark _)) (pw_or (pt_cmpR op_ne (pe_prop (pv 7) T.cl_Sum T.pr_Sum_take (ok_Sum_take T) (hr.mono (by decide)) T.b_Sum_take .nil pass0 rfl) (pv 4) (nomark _)) (pw_or (pt_cmpR (r := rNeD K) (op_neD hr.units) (pe_prop (pv 7) T.cl_Sum T.pr_Sum_first (ok_Sum_first T) (hr.mono (by decide)) T.b_Sum_first .nil pass0 rfl) (pv 5) (nomark _)) (pw_or1 (pt_cmpR (r := rNeD K) (op_neD hr.units) (pe_prop (pv 7) T.cl_Sum T.pr_Sum_loop (ok_Sum_loop T) (hr.mono (by decide)) T.b_Sum_loop .nil pass0 rfl) (pv 6) (nomark _))))))) (pss_one (ps_ret pe_bl)) pss_nil)
    (pss_cons (ps_if (PW.pt (pw_or (pt_cmpR (r := rOwnE K Z.c_Sum (sp_Sum_eq K Z)) (op_eqOwn (ok_Sum_eq T) (hr.mono (by decide)) T.m_Sum_eq.at_ T.m_Sum_eq.fn T.b_Sum_eq) (pv 7) (pe_tup (pa_cons (pv 3) (pa_cons (pv 4) (pa_cons (pv 5) (pa_cons (pv 6) pa_nil))))) (nomark _)) (pw_or1 (pt_not (pt_cmpR (r := rOwnE K Z.c_Sum (sp_Sum_eq K Z)) (op_eqOwn (ok_Sum_eq T) (hr.mono (by decide)) T.m_Sum_eq.at_ T.m_Sum_eq.fn T.b_Sum_eq) (pv 7) (pe_make T.M_Sum (ok_Sum_init T) (hr.mono (by decide)) rfl T.g_Sum T.b_Sum_init .nil pass0 (pa_cons (pv 3) (pa_cons (pv 4) (pa_cons (pv 5) (pa_cons (pv 6) pa_nil))))) (nomark _)))))) (pss_one (ps_ret pe_bl)) pss_nil)
    (pss_cons (ps_if (PW.pt (pw_or (pt_cmpR (r := rOwnE K Z.c_Sum (sp_Sum_eq K Z)) (op_eqOwn (ok_Sum_eq T) (hr.mono (by decide)) T.m_Sum_eq.at_ T.m_Sum_eq.fn T.b_Sum_eq) (pv 7) (pe_make T.M_Sum (ok_Sum_init T) (hr.mono (by decide)) rfl T.g_Sum T.b_Sum_init .nil pass0 (pa_cons (pv 3) (pa_cons (pe_op op_sub pe_int (pv 4)) (pa_cons (pv 5) (pa_cons (pv 6) pa_nil))))) (nomark _)) (pw_or1 (pt_cmpR (r := rOwnE K Z.c_Sum (sp_Sum_eq K Z)) (op_eqOwn (ok_Sum_eq T) (hr.mono (by decide)) T.m_Sum_eq.at_ T.m_Sum_eq.fn T.b_Sum_eq) (pv 7) (pe_make T.M_Sum (ok_Sum_init T) (hr.mono (by decide)) rfl T.g_Sum T.b_Sum_init .nil pass0 (pa_cons (pv 3) (pa_cons (pv 4) (pa_cons (pv 5) (pa_cons (pe_op (r := rCatA K) op_catA (pe_slice (r := rSlA K) sl_tupA (pv 6) po_none (po_some (pe_un un_neg pe_int))) (pe_tup (pa_cons (pe_op op_add (pe_ix (r := rIxT K) ix_tup (pv 6) (pe_un un_neg pe_int) (fun _ _ => rfl)) pe_int) pa_nil))) pa_nil))))) (nomark _))))) (pss_one (ps_ret pe_bl)) pss_nil)
    (pss_cons (ps_if (PW.pt (pw_or (pt_cmpR (r := rOwnE K Z.c_Sum (sp_Sum_eq K Z)) (op_eqOwn (ok_Sum_eq T) (hr.mono (by decide)) T.m_Sum_eq.at_ T.m_Sum_eq.fn T.b_Sum_eq) (pv 7) (pe_make T.M_Sum (ok_Sum_init T) (hr.mono (by decide)) rfl T.g_Sum T.b_Sum_init .nil pass0 (pa_cons (pv 3) (pa_cons (pv 4) (pa_cons (pe_op (r := rCatA K) op_catA (pv 5) (pe_tup (pa_cons pe_int pa_nil))) (pa_cons (pv 6) pa_nil))))) (nomark _)) (pw_or1 (pt_cmpR (r := rOwnE K Z.c_Sum (sp_Sum_eq K Z)) (op_eqOwn (ok_Sum_eq T) (hr.mono (by decide)) T.m_Sum_eq.at_ T.m_Sum_eq.fn T.b_Sum_eq) (pv 7) (pe_make T.M_Sum (ok_Sum_init T) (hr.mono (by decide)) rfl T.g_Sum T.b_Sum_init .nil pass0 (pa_cons (pe_op op_add (pe_op op_mod (pv 3) pe_int) pe_int) (pa_cons (pv 4) (pa_cons (pv 5) (pa_cons (pv 6) pa_nil))))) (nomark _))))) (pss_one (ps_ret pe_bl)) pss_nil)
    (pss_cons (ps_set (i := 8) sc_law.nd rfl (Or.inl rfl) (pe_ix (r := rIxL K) ix_list (pe_lst (pa_cons pe_non (pa_cons pe_int (pa_cons pe_int (pa_cons pe_bl (pa_cons pe_str pa_nil)))))) (pe_call (ok_law_taken T) (hr.mono (by decide)) rfl T.g_law_taken T.F_law_taken.kp T.b_law_taken .nil pass0 (pa_cons (pv 1) (pa_cons pe_int pa_nil))) (fun _ _ => rfl)))
    (pss_cons (ps_set (i := 9) sc_law.nd rfl (Or.inl rfl) (pe_ix (r := rIxL K) ix_list (pe_lst (pa_cons pe_non (pa_cons pe_int (pa_cons pe_int (pa_cons pe_bl (pa_cons pe_str pa_nil)))))) (pe_call (ok_law_taken T) (hr.mono (by decide)) rfl T.g_law_taken T.F_law_taken.kp T.b_law_taken .nil pass0 (pa_cons (pv 1) (pa_cons pe_int pa_nil))) (fun _ _ => rfl)))
    (pss_cons (ps_set (i := 10) sc_law.nd rfl (Or.inl rfl) (pe_ix (r := rIxL K) ix_list (pe_lst (pa_cons pe_non (pa_cons (pe_callTy (r := rLstOf K) call_lstR (by rfl) T.n_list boot_list (pa_cons (pv 6) pa_nil)) (pa_cons (pe_op (r := rRepA K) op_mulT (pe_tup (pa_cons pe_int pa_nil)) pe_int) (pa_cons pe_int (pa_cons pe_str (pa_cons pe_dnewK pa_nil))))))) (pe_call (ok_law_taken T) (hr.mono (by decide)) rfl T.g_law_taken T.F_law_taken.kp T.b_law_taken .nil pass0 (pa_cons (pv 1) (pa_cons pe_int pa_nil))) (fun _ _ => rfl)))
    (pss_cons (ps_if (PW.pt (pw_or (pt_cmpR op_ne (pe_call (ok_law_refused T) (hr.mono (by decide)) rfl T.g_law_refused T.F_law_refused.kp T.b_law_refused .nil pass0 (pa_cons (pv 8) (pa_cons (pv 9) (pa_cons (pv 10) (pa_cons (pe_tup pa_nil) pa_nil))))) pe_str (nomark _)) (pw_or1 (pt_cmpR op_ne (pe_call (ok_law_refused T) (hr.mono (by decide)) rfl T.g_law_refused T.F_law_refused.kp T.b_law_refused .nil pass0 (pa_cons (pv 3) (pa_cons (pv 9) (pa_cons (pv 10) (pa_cons (pe_tup pa_nil) pa_nil))))) pe_str (nomark _))))) (pss_one (ps_ret pe_bl)) pss_nil)
    (pss_cons (ps_if (PW.pt (pw_or (pt_cmpR (r := rNeD K) (op_neD hr.units) (pe_call (ok_law_refused T) (hr.mono (by decide)) rfl T.g_law_refused T.F_law_refused.kp T.b_law_refused .nil pass0 (pa_cons (pv 3) (pa_cons (pv 4) (pa_cons (pv 10) (pa_cons (pe_tup pa_nil) pa_nil))))) (pe_lst (pa_cons pe_non pa_nil)) (nomark _)) (pw_or1 (pt_cmpR (r := rNeD K) (op_neD hr.units) (pe_call (ok_law_refused T) (hr.mono (by decide)) rfl T.g_law_refused T.F_law_refused.kp T.b_law_refused .nil pass0 (pa_cons (pv 3) (pa_cons (pv 4) (pa_cons (pv 5) (pa_cons (pv 10) pa_nil))))) (pe_lst (pa_cons pe_non pa_nil)) (nomark _))))) (pss_one (ps_ret pe_bl)) pss_nil)
    (pss_cons (ps_if (pt_cmpR (r := rNeD K) (op_neD hr.units) (pe_call (ok_law_refused T) (hr.mono (by decide)) rfl T.g_law_refused T.F_law_refused.kp T.b_law_refused .nil pass0 (pa_cons (pv 3) (pa_cons (pv 4) (pa_cons (pv 5) (pa_cons (pe_tup pa_nil) pa_nil))))) (pe_lst (pa_cons pe_non pa_nil)) (nomark _)) (pss_one (ps_ret pe_bl)) pss_nil)
    (pss_cons (ps_set (i := 11) sc_law.nd rfl (Or.inl rfl) (pe_ix (r := rIxL K) ix_list (pe_lst (pa_cons pe_non (pa_cons (pe_op op_add (pe_op op_pow pe_int pe_int) pe_int) (pa_cons (pe_op op_sub (pe_un un_neg (pe_op op_pow pe_int pe_int)) pe_int) (pa_cons pe_bl (pa_cons pe_str pa_nil)))))) (pe_call (ok_law_taken T) (hr.mono (by decide)) rfl T.g_law_taken T.F_law_taken.kp T.b_law_taken .nil pass0 (pa_cons (pv 1) (pa_cons pe_int pa_nil))) (fun _ _ => rfl)))
    (pss_cons (ps_set (i := 12) sc_law.nd rfl (Or.inl rfl) (pe_call (ok_law_taken T) (hr.mono (by decide)) rfl T.g_law_taken T.F_law_taken.kp T.b_law_taken .nil pass0 (pa_cons (pv 1) (pa_cons (pe_callB (r := R.rLen K) call_lenR (by rfl) T.n_len boot_len (pa_cons (pv 6) pa_nil)) pa_nil))))
    (pss_cons (ps_set (i := 13) sc_law.nd rfl (Or.inl rfl) (pe_op (r := rCatA K) op_catA (pe_op (r := rCatA K) op_catA (pe_slice (r := rSlA K) sl_tupA (pv 6) po_none (po_some (pv 12))) (pe_tup (pa_cons (pv 11) pa_nil))) (pe_slice (r := rSlA K) sl_tupA (pv 6) (po_some (pe_op op_add (pv 12) pe_int)) po_none)))
    (pss_cons (ps_if (PW.pt (pw_or (pt_cmpR (r := rNeD K) (op_neD hr.units) (pe_call (ok_law_refused T) (hr.mono (by decide)) rfl T.g_law_refused T.F_law_refused.kp T.b_law_refused .nil pass0 (pa_cons (pv 3) (pa_cons (pv 4) (pa_cons (pv 13) (pa_cons (pe_tup pa_nil) pa_nil))))) (pe_lst (pa_cons (pv 12) pa_nil)) (nomark _)) (pw_or1 (pt_cmpR (r := rNeD K) (op_neD hr.units) (pe_call (ok_law_refused T) (hr.mono (by decide)) rfl T.g_law_refused T.F_law_refused.kp T.b_law_refused .nil pass0 (pa_cons (pv 3) (pa_cons (pv 4) (pa_cons (pv 5) (pa_cons (pv 13) pa_nil))))) (pe_lst (pa_cons (pv 12) pa_nil)) (nomark _))))) (pss_one (ps_ret pe_bl)) pss_nil)
    (pss_one (ps_if (pt_not (pt_val (pe_call (ok_law_unsummed T) (hr.mono (by decide)) rfl T.g_law_unsummed T.F_law_unsummed.kp T.b_law_unsummed .nil pass0 (pa_cons (pe_call (ok_law_taken T) (hr.mono (by decide)) rfl T.g_law_taken T.F_law_taken.kp T.b_law_taken .nil pass0 (pa_cons (pv 1) (pa_cons pe_int pa_nil))) (pa_cons (pe_ix (r := rIxL K) ix_list (pe_lst (pa_cons pe_non (pa_cons (pe_tup (pa_cons (pv 3) (pa_cons (pv 4) pa_nil))) (pa_cons pe_int (pa_cons pe_str pa_nil))))) (pe_call (ok_law_taken T) (hr.mono (by decide)) rfl T.g_law_taken T.F_law_taken.kp T.b_law_taken .nil pass0 (pa_cons (pv 1) (pa_cons pe_int pa_nil))) (fun _ _ => rfl)) pa_nil))))) (pss_one (ps_ret pe_bl)) pss_nil)))))))))))))))))))
    (pss_one (ps_ret pe_bl)))), ?_⟩
    walk_at "g"; walk_at "mkL"; intro row H1 hrow O
    have ok : RowOk a (.lst [.ref a, .int 0, .int 116, .int 0]) := ⟨0, 116, 0, rfl, by decide, by decide, by decide, by decide⟩
    walk_at "g"
    refine for_range (fun i σ H' => ∃ (o : HO) (v2 v3 v4 v5 v6 v7 v8 v9 v10 v11 v12 v13 : Option V), RowOk a o ∧ σ = [some (.ref a), some (.ref row), v2, v3, v4, v5, v6, v7, v8, v9, v10, v11, v12, v13] ∧ Own H [(row, o)] H') ⟨_, _, _, _, _, _, _, _, _, _, _, _, _, ok, rfl, O⟩ ?_ ?_
    · clear O ok
      rintro i σ H' hi ⟨o, v2, v3, v4, v5, v6, v7, v8, v9, v10, v11, v12, v13, ok, rfl, O⟩
      walk_at "g"
      refine use_law_taken O 0 rfl ok hS (by omega) (fun s0 o H3 hs0 hs1 ok O => ?_)
      walk_at "g"
      refine use_law_sum O 0 rfl ok hS (by omega) (fun b k f l p p1 p2 o H4 so sm ok O => ?_)
      obtain ⟨sm1, sm2, sm3⟩ := sm
      have so2 := so
      obtain ⟨hb, hk, hf, hl, wf, wl⟩ := so2
      obtain ⟨l0, z, rfl⟩ : ∃ l0 z, l = l0 ++ [z] := by
        rcases List.eq_nil_or_concat l with e | ⟨l0, z, e⟩
        · rw [e] at hl; simp at hl
        · exact ⟨l0, z, by rw [e]; simp⟩
      have zz := sm3 z (by simp)
      rw [List.length_append, List.length_singleton] at hl
      walk_at "g"
      replace O := O.tail
      have q1 := Own.fixS O
      have e2 : upd H p2 (.tup ((l0 ++ [z]).map V.int)) p2 = some (.tup ((l0 ++ [z]).map V.int)) := upd_same
      replace O := Own.fix O
      have q2 := Own.fixS O
      have e1 : upd (upd H p2 (.tup ((l0 ++ [z]).map V.int))) p1 (.tup (f.map V.int)) p1 = some (.tup (f.map V.int)) := upd_same
      replace O := Own.fix O
      have e2 := q2 _ _ e2
      have sB := q1.trans q2
      generalize upd (upd H p2 (.tup ((l0 ++ [z]).map V.int))) p1 (.tup (f.map V.int)) = B at *
      have hS' := sB.seq hS
      clear q1 q2
      walk_at "g"
      refine use_SumB O so e1 e2 (fun x B1 H5 s1 O ha ⟨dx, hx⟩ => ?_)
      have e1 := s1 _ _ e1
      have e2 := s1 _ _ e2
      have hS' := s1.seq hS'
      have sB := sB.trans s1
      walk_at "g"
      refine use_Sum_base (O.st _ _ hx) ?_
      walk_at "g"
      refine use_Sum_take (O.st _ _ hx) ?_
      walk_at "g"
      refine use_Sum_first (O.st _ _ hx) ?_
      walk_at "g"
      refine a_neT (SqT.of (O.st _ _ e1)) (SqT.of (O.st _ _ e1)) ?_
      walk_at "g"
      refine use_Sum_loop (O.st _ _ hx) ?_
      walk_at "g"
      refine a_neT (SqT.of (O.st _ _ e2)) (SqT.of (O.st _ _ e2)) ?_
      walk_at "g"; walk_at "mkT"; intro t1 H6 ht1 O
      walk_at "g"
      refine use_Sum_neT (ha.same O.st) (O.get 0 rfl) ?_
      replace O := O.tail
      walk_at "g"
      refine use_SumB O so e1 e2 (fun x2 B2 H7 s2 O ha2 _ => ?_)
      have ha := ha.same s2
      have e1 := s2 _ _ e1
      have e2 := s2 _ _ e2
      have hS' := s2.seq hS'
      have sB := sB.trans s2
      walk_at "g"
      refine use_Sum_eq (ha.same O.st) (ha2.same O.st) ?_
      rw [decide_eq_true (rfl : b = b), decide_eq_true (rfl : k = k), decide_eq_true (rfl : f = f), decide_eq_true (rfl : l0 ++ [z] = l0 ++ [z]), show (true && (true && (true && true))) = true from rfl]
      walk_at "g"
      refine use_SumB O (b := b) (k := 3 - k) (f := f) (l := l0 ++ [z]) ⟨hb, by omega, hf, by rw [List.length_append, List.length_singleton]; omega, wf, wl⟩ e1 e2 (fun x3 B3 H8 s3 O ha3 _ => ?_)
      have ha := ha.same s3
      have e1 := s3 _ _ e1
      have e2 := s3 _ _ e2
      have hS' := s3.seq hS'
      have sB := sB.trans s3
      walk_at "g"
      refine use_Sum_eq (ha.same O.st) (ha3.same O.st) ?_
      rw [decide_eq_false (show ¬ k = 3 - k by omega), Bool.false_and, Bool.and_false]
      walk_at "g"
      refine a_slA O e2 (fun r1 B4 H9 s4 O h1 => ?_)
      rw [List.map_append, List.map_singleton, cutV_init] at h1
      have ha := ha.same s4
      have e1 := s4 _ _ e1
      have e2 := s4 _ _ e2
      have hS' := s4.seq hS'
      have sB := sB.trans s4
      walk_at "g"
      refine a_ixT (v := .int z) (SqT.of (O.st _ _ e2)) (by rw [List.map_append, List.map_singleton]; exact atI_neg1 _ _) ?_
      walk_at "g"; walk_at "mkT"; intro t2 H10 ht2 O
      have s5 := Own.fixS O
      replace O := Own.fix O
      have h2 : upd B4 t2 (.tup [.int (z + 1)]) t2 = some (.tup [.int (z + 1)]) := upd_same
      have h1 := s5 _ _ h1
      have ha := ha.same s5
      have e1 := s5 _ _ e1
      have e2 := s5 _ _ e2
      have hS' := s5.seq hS'
      have sB := sB.trans s5
      generalize upd B4 t2 (.tup [.int (z + 1)]) = B5 at *
      walk_at "g"
      refine a_catB O h1 h2 (by rw [List.length_map, List.length_singleton]; omega) (fun _ => True) trivial trivial (fun _ _ => trivial) (fun r2 B6 H11 s6 O h3 _ => ?_)
      have h3 : B6 r2 = some (.tup ((l0 ++ [z + 1]).map V.int)) := by rw [List.map_append]; exact h3
      have ha := ha.same s6
      have e1 := s6 _ _ e1
      have e2 := s6 _ _ e2
      have hS' := s6.seq hS'
      have sB := sB.trans s6
      walk_at "g"
      refine use_SumB O (b := b) (k := k) (f := f) (l := l0 ++ [z + 1]) ⟨hb, hk, hf, by rw [List.length_append, List.length_singleton]; omega, wf, fun w hw => by
        rcases List.mem_append.mp hw with y | y
        · exact wl w (List.mem_append.mpr (.inl y))
        · rw [List.mem_singleton.mp y]; omega⟩ e1 h3 (fun x4 B7 H12 s7 O ha4 _ => ?_)
      have ha := ha.same s7
      have e1 := s7 _ _ e1
      have e2 := s7 _ _ e2
      have hS' := s7.seq hS'
      have sB := sB.trans s7
      walk_at "g"
      refine use_Sum_eq (ha.same O.st) (ha4.same O.st) ?_
      rw [decide_eq_false (show ¬ l0 ++ [z] = l0 ++ [z + 1] from fun e => by have := (List.cons.inj (List.append_cancel_left e)).1; omega), Bool.and_false, Bool.and_false, Bool.and_false]
      walk_at "g"; walk_at "mkT"; intro t3 H13 ht3 O
      have s8 := Own.fixS O
      replace O := Own.fix O
      have h5 : upd B7 t3 (.tup [.int 5]) t3 = some (.tup [.int 5]) := upd_same
      have ha := ha.same s8
      have e1 := s8 _ _ e1
      have e2 := s8 _ _ e2
      have hS' := s8.seq hS'
      have sB := sB.trans s8
      generalize upd B7 t3 (.tup [.int 5]) = B8 at *
      walk_at "g"
      refine a_catB O e1 h5 (by rw [List.length_map, List.length_singleton]; omega) (fun _ => True) trivial trivial (fun _ _ => trivial) (fun r3 B9 H14 s9 O h6 _ => ?_)
      have h6 : B9 r3 = some (.tup ((f ++ [5]).map V.int)) := by rw [List.map_append]; exact h6
      have ha := ha.same s9
      have e1 := s9 _ _ e1
      have e2 := s9 _ _ e2
      have hS' := s9.seq hS'
      have sB := sB.trans s9
      walk_at "g"
      refine use_SumB O (b := b) (k := k) (f := f ++ [5]) (l := l0 ++ [z]) ⟨hb, hk, by rw [List.length_append, List.length_singleton]; omega, by rw [List.length_append, List.length_singleton]; omega, fun w hw => by
        rcases List.mem_append.mp hw with y | y
        · exact wf w y
        · rw [List.mem_singleton.mp y]; omega, wl⟩ h6 e2 (fun x5 B10 H15 s10 O ha5 _ => ?_)
      have ha := ha.same s10
      have e1 := s10 _ _ e1
      have e2 := s10 _ _ e2
      have hS' := s10.seq hS'
      have sB := sB.trans s10
      walk_at "g"
      refine use_Sum_eq (ha.same O.st) (ha5.same O.st) ?_
      rw [decide_eq_false (show ¬ f = f ++ [5] from fun e => by have := congrArg List.length e; rw [List.length_append, List.length_singleton] at this; omega), Bool.false_and, Bool.and_false, Bool.and_false]
      walk_at "g"
      refine use_SumB O (b := b % 15 + 2) (k := k) (f := f) (l := l0 ++ [z]) ⟨by omega, hk, hf, by rw [List.length_append, List.length_singleton]; omega, wf, wl⟩ e1 e2 (fun x6 B11 H16 s11 O ha6 _ => ?_)
      have ha := ha.same s11
      have e1 := s11 _ _ e1
      have e2 := s11 _ _ e2
      have hS' := s11.seq hS'
      have sB := sB.trans s11
      walk_at "g"
      refine use_Sum_eq (ha.same O.st) (ha6.same O.st) ?_
      rw [decide_eq_false (show ¬ b = b % 15 + 2 by omega), Bool.false_and]
      clear ha
      walk_at "g"; walk_at "mkL"; intro m1 H17 hm1 O
      walk_at "g"
      refine use_law_taken O 1 rfl ok hS' (by omega) (fun z1 o H3 hz10 hz11 ok O => ?_)
      walk_at "g"
      refine a_ixV O 0 rfl hz10 hz11 (fun bb hbb => ?_)
      replace hbb : BadV K 2 16 bb := by
        simp only [List.mem_cons, List.not_mem_nil, or_false] at hbb
        rcases hbb with rfl | rfl | rfl | rfl | rfl <;> walk_at "badv"
      replace O := O.tail
      walk_at "g"; walk_at "mkL"; intro m2 H18 hm2 O
      walk_at "g"
      refine use_law_taken O 1 rfl ok hS' (by omega) (fun z2 o H3 hz20 hz21 ok O => ?_)
      walk_at "g"
      refine a_ixV O 0 rfl hz20 hz21 (fun bt hbt => ?_)
      replace hbt : BadV K 1 2 bt := by
        simp only [List.mem_cons, List.not_mem_nil, or_false] at hbt
        rcases hbt with rfl | rfl | rfl | rfl | rfl <;> walk_at "badv"
      replace O := O.tail
      walk_at "g"
      refine ⟨p2, _, rfl, .inr (SqT.of (O.st _ _ e2)), fun ll hll => ?_⟩
      replace O := Own.new (o := .lst ((l0 ++ [z]).map V.int)) O hll
      walk_at "g"; walk_at "mkT"; intro tz H19 htz O
      walk_at "g"
      refine ⟨tz, 13, [.int 1], rfl, rfl, O.tq 0 rfl, by simp, by omega, by omega, by decide, fun e => by omega, fun _ tb htb => ?_⟩
      replace O := Own.new (o := .tup (List.replicate 13 [V.int 1]).flatten) O htb
      walk_at "g"
      intro dd hdd
      replace O := Own.new (o := .dK []) O hdd
      walk_at "g"; walk_at "mkL"; intro m3 H20 hm3 O
      walk_at "g"
      refine use_law_taken O 5 rfl ok hS' (by omega) (fun z3 o H21 hz30 hz31 ok O => ?_)
      walk_at "g"
      refine a_ixV O 0 rfl hz30 hz31 (fun no hno => ?_)
      have k1 := O.get 1 rfl
      have k2 := O.get 2 rfl
      have k4 := O.get 4 rfl
      simp only [List.mem_cons, List.not_mem_nil, or_false] at hno
      have hno0 : NoTup K H21 no 0 12 := by
        rcases hno with rfl | rfl | rfl | rfl | rfl | rfl
        · exact .inl .non
        · exact .inl (.lst k4)
        · exact .inr ⟨_, _, rfl, k2, by simp⟩
        · exact .inl (.int 0)
        · exact .inl (.str _)
        · exact .inl (.dK k1)
      have hno1 : NoTup K H21 no 1 12 := by
        rcases hno with rfl | rfl | rfl | rfl | rfl | rfl
        · exact .inl .non
        · exact .inl (.lst k4)
        · exact .inr ⟨_, _, rfl, k2, by simp⟩
        · exact .inl (.int 0)
        · exact .inl (.str _)
        · exact .inl (.dK k1)
      have O0 := O.drop 5
      have g1 := O.st _ _ e1
      clear O
      have O := Own.refl H21
      walk_at "g"; walk_at "mkT"; intro te1 Hte1 hte1 O
      walk_at "g"
      refine use_ref (o := .base) O (.inl ⟨hbb.out _, rfl⟩) (fun H22 O => ?_)
      walk_at "g"; walk_at "mkT"; intro te2 Hte2 hte2 O
      walk_at "g"
      refine use_ref (o := .take) O (.inr ⟨b, rfl, hb, .inl ⟨hbt.out _, rfl⟩⟩) (fun H22 O => ?_)
      walk_at "g"; walk_at "mkT"; intro te3 Hte3 hte3 O
      walk_at "g"
      refine use_ref (o := .at .non) O (.inr ⟨b, rfl, hb, .inr ⟨k, rfl, hk, .inl ⟨.non, .inl ⟨hno0.same O.st, rfl⟩, rfl⟩⟩⟩) (fun q1 H22 O => ?_)
      walk_at "g"; walk_at "mkL"; intro qq Hqq hqq O
      walk_at "g"
      refine a_neOne ⟨.none, rfl, Nat.zero_le _, fun _ => .non⟩ (Own.sq O 1 rfl) (Own.sq O 0 rfl) ?_
      walk_at "g"
      refine use_ref (o := .at .non) O (.inr ⟨b, rfl, hb, .inr ⟨k, rfl, hk, .inr ⟨p1, f, .non, rfl, O.st _ _ g1, hf, wf, .inl ⟨hno1.same O.st, rfl⟩, rfl⟩⟩⟩) (fun q1 H22 O => ?_)
      walk_at "g"; walk_at "mkL"; intro qq Hqq hqq O
      walk_at "g"
      refine a_neOne ⟨.none, rfl, Nat.zero_le _, fun _ => .non⟩ (Own.sq O 1 rfl) (Own.sq O 0 rfl) ?_
      walk_at "g"; walk_at "mkT"; intro te4 Hte4 hte4 O
      walk_at "g"
      refine use_ref (o := .at .non) O (.inr ⟨b, rfl, hb, .inr ⟨k, rfl, hk, .inr ⟨p1, f, .non, rfl, O.st _ _ g1, hf, wf, .inl ⟨.inr ⟨te4, [], rfl, O.get 0 rfl, by simp⟩, rfl⟩, rfl⟩⟩⟩) (fun q1 H22 O => ?_)
      walk_at "g"; walk_at "mkL"; intro qq Hqq hqq O
      walk_at "g"
      refine a_neOne ⟨.none, rfl, Nat.zero_le _, fun _ => .non⟩ (Own.sq O 1 rfl) (Own.sq O 0 rfl) ?_
      have O := O0.same O.st
      clear O0
      walk_at "g"; walk_at "mkL"; intro m4 H23 hm4 O
      walk_at "g"
      refine use_law_taken O 1 rfl ok hS' (by omega) (fun z4 o H24 hz40 hz41 ok O => ?_)
      walk_at "g"
      refine a_ixV O 0 rfl hz40 hz41 (fun bw hbw => ?_)
      replace hbw : BadV K (-(10 ^ 6)) (10 ^ 6) bw := by
        simp only [List.mem_cons, List.not_mem_nil, or_false] at hbw
        rcases hbw with rfl | rfl | rfl | rfl | rfl <;> walk_at "badv"
      replace O := O.tail
      walk_at "g"
      refine a_len (.inr (SqT.of (O.st _ _ e2))) ?_
      rw [List.length_map, List.length_append, List.length_singleton]
      walk_at "g"
      refine use_law_taken O 0 rfl ok hS' (by omega) (fun n' o H25 hn0 hn1 ok O => ?_)
      obtain ⟨n, rfl⟩ : ∃ n : Nat, n' = (n : Int) := ⟨n'.toNat, by omega⟩
      walk_at "g"
      refine a_slA O e2 (fun r5 B12 H26 s12 O h7 => ?_)
      rw [cutV_to] at h7
      have e1 := s12 _ _ e1
      have e2 := s12 _ _ e2
      have sB := sB.trans s12
      walk_at "g"; walk_at "mkT"; intro t4 H27 ht4 O
      have s13 := Own.fixS O
      replace O := Own.fix O
      have h8 : upd B12 t4 (.tup [bw]) t4 = some (.tup [bw]) := upd_same
      have h7 := s13 _ _ h7
      have e1 := s13 _ _ e1
      have e2 := s13 _ _ e2
      have sB := sB.trans s13
      generalize upd B12 t4 (.tup [bw]) = B13 at *
      walk_at "g"
      refine a_catB O h7 h8 (by rw [List.length_take, List.length_map, List.length_append]; simp only [List.length_cons, List.length_nil]; omega) (fun _ => True) trivial trivial (fun _ _ => trivial) (fun r6 B14 H28 s14 O h9 _ => ?_)
      have e1 := s14 _ _ e1
      have e2 := s14 _ _ e2
      have sB := sB.trans s14
      walk_at "g"
      rw [show (n : Int) + 1 = ((n + 1 : Nat) : Int) by omega]
      refine a_slA O e2 (fun r7 B15 H29 s15 O h10 => ?_)
      rw [cutV_from] at h10
      have h9 := s15 _ _ h9
      have e1 := s15 _ _ e1
      have e2 := s15 _ _ e2
      have sB := sB.trans s15
      walk_at "g"
      refine a_catB O h9 h10 (by rw [List.length_append, List.length_take, List.length_drop, List.length_map, List.length_append]; simp only [List.length_cons, List.length_nil]; omega) (fun _ => True) trivial trivial (fun _ _ => trivial) (fun r8 B16 H30 s16 O h11 _ => ?_)
      have e1 := s16 _ _ e1
      have sB := sB.trans s16
      have hS' := sB.seq hS
      have wr := wrongAt_put (ms := l0 ++ [z]) (n := n) (w := bw) (G := WOk) (tl := ((l0 ++ [z]).map V.int).drop (n + 1)) (by rw [List.length_append, List.length_singleton]; omega) (fun m hm => ⟨m, rfl, wl m hm⟩)
      have lw : 1 ≤ (((l0 ++ [z]).map V.int).take n ++ [bw] ++ ((l0 ++ [z]).map V.int).drop (n + 1)).length ∧ (((l0 ++ [z]).map V.int).take n ++ [bw] ++ ((l0 ++ [z]).map V.int).drop (n + 1)).length ≤ 12 := by
        rw [List.length_append, List.length_append, List.length_take, List.length_drop, List.length_map, List.length_append]; simp only [List.length_cons, List.length_nil]; omega
      generalize ((l0 ++ [z]).map V.int).take n ++ [bw] ++ ((l0 ++ [z]).map V.int).drop (n + 1) = ws at *
      walk_at "g"; walk_at "mkT"; intro te5 Hte5 hte5 O
      walk_at "g"
      refine use_ref (o := .at (.int (n : Int))) O (.inr ⟨b, rfl, hb, .inr ⟨k, rfl, hk, .inl ⟨.int (n : Int), .inr ⟨r8, ws, n, bw, rfl, O.st _ _ h11, ⟨Nat.zero_le _, lw.2⟩, wr, hbw.out _, rfl⟩, rfl⟩⟩⟩) (fun q1 H31 O => ?_)
      walk_at "g"; walk_at "mkL"; intro qq Hqq hqq O
      walk_at "g"
      refine a_neOne ⟨.int (n : Int), rfl, Nat.zero_le _, fun _ => .int _⟩ (Own.sq O 1 rfl) (Own.sq O 0 rfl) ?_
      replace O := O.drop 3
      walk_at "g"
      refine use_ref (o := .at (.int (n : Int))) O (.inr ⟨b, rfl, hb, .inr ⟨k, rfl, hk, .inr ⟨p1, f, .int (n : Int), rfl, O.st _ _ e1, hf, wf, .inr ⟨r8, ws, n, bw, rfl, O.st _ _ h11, lw, wr, hbw.out _, rfl⟩, rfl⟩⟩⟩) (fun q1 H31 O => ?_)
      walk_at "g"; walk_at "mkL"; intro qq Hqq hqq O
      walk_at "g"
      refine a_neOne ⟨.int (n : Int), rfl, Nat.zero_le _, fun _ => .int _⟩ (Own.sq O 1 rfl) (Own.sq O 0 rfl) ?_
      replace O := O.tail.tail
      walk_at "g"
      refine use_law_taken O 0 rfl ok hS' (by omega) (fun z5 o H32 hz50 hz51 ok O => ?_)
      walk_at "g"; walk_at "mkT"; intro t6 H33 ht6 O
      walk_at "g"; walk_at "mkL"; intro m5 H34 hm5 O
      walk_at "g"
      refine use_law_taken O 2 rfl ok hS' (by omega) (fun z6 o H35 hz60 hz61 ok O => ?_)
      walk_at "g"
      refine a_ixV O 0 rfl hz60 hz61 (fun nv hnv => ?_)
      have k6 := O.get 1 rfl
      have hnv : NoI K H35 nv := by
        simp only [List.mem_cons, List.not_mem_nil, or_false] at hnv
        rcases hnv with rfl | rfl | rfl | rfl
        · exact .inl .non
        · exact .inl (.tup k6)
        · exact .inr ⟨_, rfl⟩
        · exact .inl (.str _)
      walk_at "g"
      refine ⟨_, _, rfl, ⟨hz50, hz51⟩, hnv, fun H36 s => ?_⟩
      replace O := ((O.same s).drop 2).sub sB
      walk_at "g"
      exact ⟨o, _, _, _, _, _, _, _, _, _, _, _, _, ok, rfl, O⟩
    · clear O ok
      rintro σ H' ⟨o, v2, v3, v4, v5, v6, v7, v8, v9, v10, v11, v12, v13, ok, rfl, O⟩
      walk_at "g"
      exact h _

end
theorem all_mk {l : PySem.W.OpenLaw} {w : World} {K : Frag} {h : Heap} {mg : Str → Option Value} {fa f0 f1 f2 f3 f4 f5 f6 f7 f8 f9 f10 f11 f12 f13 f14 f15 f16 f17 f18 f19 f20 f21 f22 f23 f24 f25 f26 f27 CSum CBadBase CBadTake CBadNumber CBadDivisor CBadWeights CBadSum CTrickError P12 P13 P14 P15 : Addr} (X : K.In h) (G : h.Ns mainGlobals mg) (hfa : mg "law" = some (.ref fa))
    {od0 an0 : Option Addr} {sl0 : Array (Option Value)} {oc0 kV0 dc0 pm0 cd0 ct0 : Value}
    {od1 an1 : Option Addr} {sl1 : Array (Option Value)} {oc1 kV1 dc1 pm1 cd1 ct1 : Value}
    {od2 an2 : Option Addr} {sl2 : Array (Option Value)} {oc2 kV2 dc2 pm2 cd2 ct2 : Value}
    {od3 an3 : Option Addr} {sl3 : Array (Option Value)} {oc3 kV3 dc3 pm3 cd3 ct3 : Value}
    {od4 an4 : Option Addr} {sl4 : Array (Option Value)} {oc4 kV4 dc4 pm4 cd4 ct4 : Value}
    {od5 an5 : Option Addr} {sl5 : Array (Option Value)} {oc5 kV5 dc5 pm5 cd5 ct5 : Value}
    {od6 an6 : Option Addr} {sl6 : Array (Option Value)} {oc6 kV6 dc6 pm6 cd6 ct6 : Value}
    {od7 an7 : Option Addr} {sl7 : Array (Option Value)} {oc7 kV7 dc7 pm7 cd7 ct7 : Value}
    {od8 an8 : Option Addr} {sl8 : Array (Option Value)} {oc8 kV8 dc8 pm8 cd8 ct8 : Value}
    {od9 an9 : Option Addr} {sl9 : Array (Option Value)} {oc9 kV9 dc9 pm9 cd9 ct9 : Value}
    {od10 an10 : Option Addr} {sl10 : Array (Option Value)} {oc10 kV10 dc10 pm10 cd10 ct10 : Value}
    {od11 an11 : Option Addr} {sl11 : Array (Option Value)} {oc11 kV11 dc11 pm11 cd11 ct11 : Value}
    {od12 an12 : Option Addr} {sl12 : Array (Option Value)} {oc12 kV12 dc12 pm12 cd12 ct12 : Value}
    {pR12 : List Value}
    {od13 an13 : Option Addr} {sl13 : Array (Option Value)} {oc13 kV13 dc13 pm13 cd13 ct13 : Value}
    {pR13 : List Value}
    {od14 an14 : Option Addr} {sl14 : Array (Option Value)} {oc14 kV14 dc14 pm14 cd14 ct14 : Value}
    {pR14 : List Value}
    {od15 an15 : Option Addr} {sl15 : Array (Option Value)} {oc15 kV15 dc15 pm15 cd15 ct15 : Value}
    {pR15 : List Value}
    {od16 an16 : Option Addr} {sl16 : Array (Option Value)} {oc16 kV16 dc16 pm16 cd16 ct16 : Value}
    {od17 an17 : Option Addr} {sl17 : Array (Option Value)} {oc17 kV17 dc17 pm17 cd17 ct17 : Value}
    {od18 an18 : Option Addr} {sl18 : Array (Option Value)} {oc18 kV18 dc18 pm18 cd18 ct18 : Value}
    {od19 an19 : Option Addr} {sl19 : Array (Option Value)} {oc19 kV19 dc19 pm19 cd19 ct19 : Value}
    {od20 an20 : Option Addr} {sl20 : Array (Option Value)} {oc20 kV20 dc20 pm20 cd20 ct20 : Value}
    {od21 an21 : Option Addr} {sl21 : Array (Option Value)} {oc21 kV21 dc21 pm21 cd21 ct21 : Value}
    {od22 an22 : Option Addr} {sl22 : Array (Option Value)} {oc22 kV22 dc22 pm22 cd22 ct22 : Value}
    {od23 an23 : Option Addr} {sl23 : Array (Option Value)} {oc23 kV23 dc23 pm23 cd23 ct23 : Value}
    {od24 an24 : Option Addr} {sl24 : Array (Option Value)} {oc24 kV24 dc24 pm24 cd24 ct24 : Value}
    {od25 an25 : Option Addr} {sl25 : Array (Option Value)} {oc25 kV25 dc25 pm25 cd25 ct25 : Value}
    {od26 an26 : Option Addr} {sl26 : Array (Option Value)} {oc26 kV26 dc26 pm26 cd26 ct26 : Value}
    {od27 an27 : Option Addr} {sl27 : Array (Option Value)} {oc27 kV27 dc27 pm27 cd27 ct27 : Value}
    {xnBadBase xqBadBase : Str} {xNBadBase : Addr} {xbBadBase : List Value} {xsBadBase : List Str} {xuBadBase : List Value} {xaBadBase : Bool} {xcBadBase : Option Bool} {xdBadBase : Option Addr} {x0BadBase x1BadBase x2BadBase x3BadBase x5BadBase : Option Value}
    {xnBadTake xqBadTake : Str} {xNBadTake : Addr} {xbBadTake : List Value} {xsBadTake : List Str} {xuBadTake : List Value} {xaBadTake : Bool} {xcBadTake : Option Bool} {xdBadTake : Option Addr} {x0BadTake x1BadTake x2BadTake x3BadTake x5BadTake : Option Value}
    {xnBadNumber xqBadNumber : Str} {xNBadNumber : Addr} {xbBadNumber : List Value} {xsBadNumber : List Str} {xuBadNumber : List Value} {xaBadNumber : Bool} {xcBadNumber : Option Bool} {xdBadNumber : Option Addr} {x0BadNumber x1BadNumber x2BadNumber x3BadNumber x5BadNumber : Option Value}
    {xnBadDivisor xqBadDivisor : Str} {xNBadDivisor : Addr} {xbBadDivisor : List Value} {xsBadDivisor : List Str} {xuBadDivisor : List Value} {xaBadDivisor : Bool} {xcBadDivisor : Option Bool} {xdBadDivisor : Option Addr} {x0BadDivisor x1BadDivisor x2BadDivisor x3BadDivisor x5BadDivisor : Option Value}
    {xnBadWeights xqBadWeights : Str} {xNBadWeights : Addr} {xbBadWeights : List Value} {xsBadWeights : List Str} {xuBadWeights : List Value} {xaBadWeights : Bool} {xcBadWeights : Option Bool} {xdBadWeights : Option Addr} {x0BadWeights x1BadWeights x2BadWeights x3BadWeights x5BadWeights : Option Value}
    {xnBadSum xqBadSum : Str} {xNBadSum : Addr} {xbBadSum : List Value} {xsBadSum : List Str} {xuBadSum : List Value} {xaBadSum : Bool} {xcBadSum : Option Bool} {xdBadSum : Option Addr} {x0BadSum x1BadSum x2BadSum x3BadSum x5BadSum : Option Value}
    {tk_LEAST_BASE : Tok}
    {tk_MOST_BASE : Tok}
    {tk_MOST_NUMBER : Tok}
    {tk_MOST_TAKE : Tok}
    {tk_MOST_WEIGHT : Tok}
    {tk_MOST_WEIGHTS : Tok}
    {tk_MOST_SUM_DIVISOR : Tok}
    (a0 : PySem.W.findIn K (.ref CBadBase) "__init__" = some (some (.ref f0)))
    (i0 : PySem.W.isFn K (.ref f0) = true)
    (l0 : K.lookup f0 = some ⟨oc0, od0, .func (PySem.W.fnOf "__init__" "BadBase.__init__" (defArgs s_BadBase_init) (defBody s_BadBase_init) (defScope s_BadBase_init) .none kV0 dc0 pm0 an0 cd0 ct0), sl0⟩)
    (c0 : PySem.W.codeIn K cd0 "BadBase.__init__" = true)
    (k0 : PySem.W.keepIn K (.ref f0) = true)
    (a1 : PySem.W.findIn K (.ref CBadTake) "__init__" = some (some (.ref f1)))
    (i1 : PySem.W.isFn K (.ref f1) = true)
    (l1 : K.lookup f1 = some ⟨oc1, od1, .func (PySem.W.fnOf "__init__" "BadTake.__init__" (defArgs s_BadTake_init) (defBody s_BadTake_init) (defScope s_BadTake_init) .none kV1 dc1 pm1 an1 cd1 ct1), sl1⟩)
    (c1 : PySem.W.codeIn K cd1 "BadTake.__init__" = true)
    (k1 : PySem.W.keepIn K (.ref f1) = true)
    (a2 : PySem.W.findIn K (.ref CBadNumber) "__init__" = some (some (.ref f2)))
    (i2 : PySem.W.isFn K (.ref f2) = true)
    (l2 : K.lookup f2 = some ⟨oc2, od2, .func (PySem.W.fnOf "__init__" "BadNumber.__init__" (defArgs s_BadNumber_init) (defBody s_BadNumber_init) (defScope s_BadNumber_init) .none kV2 dc2 pm2 an2 cd2 ct2), sl2⟩)
    (c2 : PySem.W.codeIn K cd2 "BadNumber.__init__" = true)
    (k2 : PySem.W.keepIn K (.ref f2) = true)
    (a3 : PySem.W.findIn K (.ref CBadDivisor) "__init__" = some (some (.ref f3)))
    (i3 : PySem.W.isFn K (.ref f3) = true)
    (l3 : K.lookup f3 = some ⟨oc3, od3, .func (PySem.W.fnOf "__init__" "BadDivisor.__init__" (defArgs s_BadDivisor_init) (defBody s_BadDivisor_init) (defScope s_BadDivisor_init) .none kV3 dc3 pm3 an3 cd3 ct3), sl3⟩)
    (c3 : PySem.W.codeIn K cd3 "BadDivisor.__init__" = true)
    (k3 : PySem.W.keepIn K (.ref f3) = true)
    (a4 : PySem.W.findIn K (.ref CBadWeights) "__init__" = some (some (.ref f4)))
    (i4 : PySem.W.isFn K (.ref f4) = true)
    (l4 : K.lookup f4 = some ⟨oc4, od4, .func (PySem.W.fnOf "__init__" "BadWeights.__init__" (defArgs s_BadWeights_init) (defBody s_BadWeights_init) (defScope s_BadWeights_init) .none kV4 dc4 pm4 an4 cd4 ct4), sl4⟩)
    (c4 : PySem.W.codeIn K cd4 "BadWeights.__init__" = true)
    (k4 : PySem.W.keepIn K (.ref f4) = true)
    (a5 : PySem.W.findIn K (.ref CBadSum) "__init__" = some (some (.ref f5)))
    (i5 : PySem.W.isFn K (.ref f5) = true)
    (l5 : K.lookup f5 = some ⟨oc5, od5, .func (PySem.W.fnOf "__init__" "BadSum.__init__" (defArgs s_BadSum_init) (defBody s_BadSum_init) (defScope s_BadSum_init) .none kV5 dc5 pm5 an5 cd5 ct5), sl5⟩)
    (c5 : PySem.W.codeIn K cd5 "BadSum.__init__" = true)
    (k5 : PySem.W.keepIn K (.ref f5) = true)
    (a6 : PySem.W.nsIn K mainGlobals "is_from" = some (some (.ref f6)))
    (l6 : K.lookup f6 = some ⟨oc6, od6, .func (PySem.W.fnOf "is_from" "is_from" (defArgs s_is_from) (defBody s_is_from) (defScope s_is_from) .none kV6 dc6 pm6 an6 cd6 ct6), sl6⟩)
    (c6 : PySem.W.codeIn K cd6 "is_from" = true)
    (k6 : PySem.W.keepIn K (.ref f6) = true)
    (a7 : PySem.W.nsIn K mainGlobals "need_base" = some (some (.ref f7)))
    (l7 : K.lookup f7 = some ⟨oc7, od7, .func (PySem.W.fnOf "need_base" "need_base" (defArgs s_need_base) (defBody s_need_base) (defScope s_need_base) .none kV7 dc7 pm7 an7 cd7 ct7), sl7⟩)
    (c7 : PySem.W.codeIn K cd7 "need_base" = true)
    (k7 : PySem.W.keepIn K (.ref f7) = true)
    (a8 : PySem.W.nsIn K mainGlobals "need_divisor" = some (some (.ref f8)))
    (l8 : K.lookup f8 = some ⟨oc8, od8, .func (PySem.W.fnOf "need_divisor" "need_divisor" (defArgs s_need_divisor) (defBody s_need_divisor) (defScope s_need_divisor) .none kV8 dc8 pm8 an8 cd8 ct8), sl8⟩)
    (c8 : PySem.W.codeIn K cd8 "need_divisor" = true)
    (k8 : PySem.W.keepIn K (.ref f8) = true)
    (a9 : PySem.W.nsIn K mainGlobals "power" = some (some (.ref f9)))
    (l9 : K.lookup f9 = some ⟨oc9, od9, .func (PySem.W.fnOf "power" "power" (defArgs s_power) (defBody s_power) (defScope s_power) .none kV9 dc9 pm9 an9 cd9 ct9), sl9⟩)
    (c9 : PySem.W.codeIn K cd9 "power" = true)
    (k9 : PySem.W.keepIn K (.ref f9) = true)
    (a10 : PySem.W.nsIn K mainGlobals "need_weights" = some (some (.ref f10)))
    (l10 : K.lookup f10 = some ⟨oc10, od10, .func (PySem.W.fnOf "need_weights" "need_weights" (defArgs s_need_weights) (defBody s_need_weights) (defScope s_need_weights) .none kV10 dc10 pm10 an10 cd10 ct10), sl10⟩)
    (c10 : PySem.W.codeIn K cd10 "need_weights" = true)
    (k10 : PySem.W.keepIn K (.ref f10) = true)
    (a11 : PySem.W.findIn K (.ref CSum) "__init__" = some (some (.ref f11)))
    (i11 : PySem.W.isFn K (.ref f11) = true)
    (l11 : K.lookup f11 = some ⟨oc11, od11, .func (PySem.W.fnOf "__init__" "Sum.__init__" (defArgs s_Sum_init) (defBody s_Sum_init) (defScope s_Sum_init) .none kV11 dc11 pm11 an11 cd11 ct11), sl11⟩)
    (c11 : PySem.W.codeIn K cd11 "Sum.__init__" = true)
    (k11 : PySem.W.keepIn K (.ref f11) = true)
    (a12 : PySem.W.findIn K (.ref CSum) "base" = some (some (.ref P12)))
    (pg12 : PySem.W.specialIn K (.ref P12) "__get__" = some (some (.builtin "property.__get__")))
    (pt12 : PySem.W.takesIn K (.ref P12) = some true)
    (pr12 : PySem.W.recIn K P12 "property" = some (.ref f12 :: pR12))
    (l12 : K.lookup f12 = some ⟨oc12, od12, .func (PySem.W.fnOf "base" "Sum.base" (defArgs s_Sum_base) (defBody s_Sum_base) (defScope s_Sum_base) .none kV12 dc12 pm12 an12 cd12 ct12), sl12⟩)
    (c12 : PySem.W.codeIn K cd12 "Sum.base" = true)
    (k12 : PySem.W.keepIn K (.ref f12) = true)
    (a13 : PySem.W.findIn K (.ref CSum) "take" = some (some (.ref P13)))
    (pg13 : PySem.W.specialIn K (.ref P13) "__get__" = some (some (.builtin "property.__get__")))
    (pt13 : PySem.W.takesIn K (.ref P13) = some true)
    (pr13 : PySem.W.recIn K P13 "property" = some (.ref f13 :: pR13))
    (l13 : K.lookup f13 = some ⟨oc13, od13, .func (PySem.W.fnOf "take" "Sum.take" (defArgs s_Sum_take) (defBody s_Sum_take) (defScope s_Sum_take) .none kV13 dc13 pm13 an13 cd13 ct13), sl13⟩)
    (c13 : PySem.W.codeIn K cd13 "Sum.take" = true)
    (k13 : PySem.W.keepIn K (.ref f13) = true)
    (a14 : PySem.W.findIn K (.ref CSum) "first" = some (some (.ref P14)))
    (pg14 : PySem.W.specialIn K (.ref P14) "__get__" = some (some (.builtin "property.__get__")))
    (pt14 : PySem.W.takesIn K (.ref P14) = some true)
    (pr14 : PySem.W.recIn K P14 "property" = some (.ref f14 :: pR14))
    (l14 : K.lookup f14 = some ⟨oc14, od14, .func (PySem.W.fnOf "first" "Sum.first" (defArgs s_Sum_first) (defBody s_Sum_first) (defScope s_Sum_first) .none kV14 dc14 pm14 an14 cd14 ct14), sl14⟩)
    (c14 : PySem.W.codeIn K cd14 "Sum.first" = true)
    (k14 : PySem.W.keepIn K (.ref f14) = true)
    (a15 : PySem.W.findIn K (.ref CSum) "loop" = some (some (.ref P15)))
    (pg15 : PySem.W.specialIn K (.ref P15) "__get__" = some (some (.builtin "property.__get__")))
    (pt15 : PySem.W.takesIn K (.ref P15) = some true)
    (pr15 : PySem.W.recIn K P15 "property" = some (.ref f15 :: pR15))
    (l15 : K.lookup f15 = some ⟨oc15, od15, .func (PySem.W.fnOf "loop" "Sum.loop" (defArgs s_Sum_loop) (defBody s_Sum_loop) (defScope s_Sum_loop) .none kV15 dc15 pm15 an15 cd15 ct15), sl15⟩)
    (c15 : PySem.W.codeIn K cd15 "Sum.loop" = true)
    (k15 : PySem.W.keepIn K (.ref f15) = true)
    (a16 : PySem.W.findIn K (.ref CSum) "__eq__" = some (some (.ref f16)))
    (i16 : PySem.W.isFn K (.ref f16) = true)
    (l16 : K.lookup f16 = some ⟨oc16, od16, .func (PySem.W.fnOf "__eq__" "Sum.__eq__" (defArgs s_Sum_eq) (defBody s_Sum_eq) (defScope s_Sum_eq) .none kV16 dc16 pm16 an16 cd16 ct16), sl16⟩)
    (c16 : PySem.W.codeIn K cd16 "Sum.__eq__" = true)
    (k16 : PySem.W.keepIn K (.ref f16) = true)
    (a17 : PySem.W.nsIn K mainGlobals "need_sum" = some (some (.ref f17)))
    (l17 : K.lookup f17 = some ⟨oc17, od17, .func (PySem.W.fnOf "need_sum" "need_sum" (defArgs s_need_sum) (defBody s_need_sum) (defScope s_need_sum) .none kV17 dc17 pm17 an17 cd17 ct17), sl17⟩)
    (c17 : PySem.W.codeIn K cd17 "need_sum" = true)
    (k17 : PySem.W.keepIn K (.ref f17) = true)
    (a18 : PySem.W.nsIn K mainGlobals "total" = some (some (.ref f18)))
    (l18 : K.lookup f18 = some ⟨oc18, od18, .func (PySem.W.fnOf "total" "total" (defArgs s_total) (defBody s_total) (defScope s_total) .none kV18 dc18 pm18 an18 cd18 ct18), sl18⟩)
    (c18 : PySem.W.codeIn K cd18 "total" = true)
    (k18 : PySem.W.keepIn K (.ref f18) = true)
    (a19 : PySem.W.nsIn K mainGlobals "sum_fails" = some (some (.ref f19)))
    (l19 : K.lookup f19 = some ⟨oc19, od19, .func (PySem.W.fnOf "sum_fails" "sum_fails" (defArgs s_sum_fails) (defBody s_sum_fails) (defScope s_sum_fails) .none kV19 dc19 pm19 an19 cd19 ct19), sl19⟩)
    (c19 : PySem.W.codeIn K cd19 "sum_fails" = true)
    (k19 : PySem.W.keepIn K (.ref f19) = true)
    (a20 : PySem.W.nsIn K mainGlobals "sum_rest_fails" = some (some (.ref f20)))
    (l20 : K.lookup f20 = some ⟨oc20, od20, .func (PySem.W.fnOf "sum_rest_fails" "sum_rest_fails" (defArgs s_sum_rest_fails) (defBody s_sum_rest_fails) (defScope s_sum_rest_fails) .none kV20 dc20 pm20 an20 cd20 ct20), sl20⟩)
    (c20 : PySem.W.codeIn K cd20 "sum_rest_fails" = true)
    (k20 : PySem.W.keepIn K (.ref f20) = true)
    (a21 : PySem.W.nsIn K mainGlobals "sum_tells" = some (some (.ref f21)))
    (l21 : K.lookup f21 = some ⟨oc21, od21, .func (PySem.W.fnOf "sum_tells" "sum_tells" (defArgs s_sum_tells) (defBody s_sum_tells) (defScope s_sum_tells) .none kV21 dc21 pm21 an21 cd21 ct21), sl21⟩)
    (c21 : PySem.W.codeIn K cd21 "sum_tells" = true)
    (k21 : PySem.W.keepIn K (.ref f21) = true)
    (a22 : PySem.W.nsIn K mainGlobals "_law_taken" = some (some (.ref f22)))
    (l22 : K.lookup f22 = some ⟨oc22, od22, .func (PySem.W.fnOf "_law_taken" "_law_taken" (defArgs s_law_taken) (defBody s_law_taken) (defScope s_law_taken) .none kV22 dc22 pm22 an22 cd22 ct22), sl22⟩)
    (c22 : PySem.W.codeIn K cd22 "_law_taken" = true)
    (k22 : PySem.W.keepIn K (.ref f22) = true)
    (a23 : PySem.W.nsIn K mainGlobals "_law_power" = some (some (.ref f23)))
    (l23 : K.lookup f23 = some ⟨oc23, od23, .func (PySem.W.fnOf "_law_power" "_law_power" (defArgs s_law_power) (defBody s_law_power) (defScope s_law_power) .none kV23 dc23 pm23 an23 cd23 ct23), sl23⟩)
    (c23 : PySem.W.codeIn K cd23 "_law_power" = true)
    (k23 : PySem.W.keepIn K (.ref f23) = true)
    (a24 : PySem.W.nsIn K mainGlobals "_law_sum" = some (some (.ref f24)))
    (l24 : K.lookup f24 = some ⟨oc24, od24, .func (PySem.W.fnOf "_law_sum" "_law_sum" (defArgs s_law_sum) (defBody s_law_sum) (defScope s_law_sum) .none kV24 dc24 pm24 an24 cd24 ct24), sl24⟩)
    (c24 : PySem.W.codeIn K cd24 "_law_sum" = true)
    (k24 : PySem.W.keepIn K (.ref f24) = true)
    (a25 : PySem.W.nsIn K mainGlobals "_law_refused" = some (some (.ref f25)))
    (l25 : K.lookup f25 = some ⟨oc25, od25, .func (PySem.W.fnOf "_law_refused" "_law_refused" (defArgs s_law_refused) (defBody s_law_refused) (defScope s_law_refused) .none kV25 dc25 pm25 an25 cd25 ct25), sl25⟩)
    (c25 : PySem.W.codeIn K cd25 "_law_refused" = true)
    (k25 : PySem.W.keepIn K (.ref f25) = true)
    (a26 : PySem.W.nsIn K mainGlobals "_law_unsummed" = some (some (.ref f26)))
    (l26 : K.lookup f26 = some ⟨oc26, od26, .func (PySem.W.fnOf "_law_unsummed" "_law_unsummed" (defArgs s_law_unsummed) (defBody s_law_unsummed) (defScope s_law_unsummed) .none kV26 dc26 pm26 an26 cd26 ct26), sl26⟩)
    (c26 : PySem.W.codeIn K cd26 "_law_unsummed" = true)
    (k26 : PySem.W.keepIn K (.ref f26) = true)
    (a27 : PySem.W.nsIn K mainGlobals "law" = some (some (.ref f27)))
    (l27 : K.lookup f27 = some ⟨oc27, od27, .func (PySem.W.fnOf "law" "law" (defArgs s_law) (defBody s_law) (defScope s_law) .none kV27 dc27 pm27 an27 cd27 ct27), sl27⟩)
    (c27 : PySem.W.codeIn K cd27 "law" = true)
    (k27 : PySem.W.keepIn K (.ref f27) = true)
    (aCBadBase : PySem.W.nsIn K mainGlobals "BadBase" = some (some (.ref CBadBase)))
    (aCBadTake : PySem.W.nsIn K mainGlobals "BadTake" = some (some (.ref CBadTake)))
    (aCBadNumber : PySem.W.nsIn K mainGlobals "BadNumber" = some (some (.ref CBadNumber)))
    (aCBadDivisor : PySem.W.nsIn K mainGlobals "BadDivisor" = some (some (.ref CBadDivisor)))
    (aCBadWeights : PySem.W.nsIn K mainGlobals "BadWeights" = some (some (.ref CBadWeights)))
    (aCBadSum : PySem.W.nsIn K mainGlobals "BadSum" = some (some (.ref CBadSum)))
    (aCTrickError : PySem.W.nsIn K mainGlobals "TrickError" = some (some (.ref CTrickError)))
    (rdTrickError : PySem.W.readsIn K CTrickError (.type "type") = true)
    (gtTrickError : PySem.W.specialIn K (.ref CTrickError) "__getattribute__" = some (some (.builtin "type.__getattribute__")))
    (fcTrickError : PySem.W.findCls K (.ref CTrickError) (.type "type") "__init__" = some (.val (.builtin "ValueError.__init__")))
    (xLBadBase : K.lookup CBadBase = some (excClassObj xnBadBase xqBadBase CBadBase xNBadBase xbBadBase [.ref CTrickError, .type "ValueError", .type "Exception", .type "BaseException", .type "object"] true xsBadBase xuBadBase xaBadBase xcBadBase xdBadBase x0BadBase x1BadBase x2BadBase x3BadBase x5BadBase "ValueError.__new__"))
    (saBadBase : PySem.W.findIn K (.ref CBadBase) "__setattr__" = some (some (.builtin "object.__setattr__")))
    (eCBadBase : PySem.W.subIn K (.ref CBadBase) (.type "BaseException") = some true)
    (tyBadBase : PySem.W.typeIn K (.ref CBadBase) = some (.type "type"))
    (kcBadBase : PySem.W.keepIn K (.ref CBadBase) = true)
    (gaBadBase : PySem.W.findIn K (.ref CBadBase) "__getattribute__" = some (some (.builtin "BaseException.__getattribute__")))
    (ggBadBase : PySem.W.findIn K (.ref CBadBase) "__getattr__" = some none)
    (hdBadBase : PySem.W.hasDictIn K CBadBase = true)
    (xLBadTake : K.lookup CBadTake = some (excClassObj xnBadTake xqBadTake CBadTake xNBadTake xbBadTake [.ref CTrickError, .type "ValueError", .type "Exception", .type "BaseException", .type "object"] true xsBadTake xuBadTake xaBadTake xcBadTake xdBadTake x0BadTake x1BadTake x2BadTake x3BadTake x5BadTake "ValueError.__new__"))
    (saBadTake : PySem.W.findIn K (.ref CBadTake) "__setattr__" = some (some (.builtin "object.__setattr__")))
    (eCBadTake : PySem.W.subIn K (.ref CBadTake) (.type "BaseException") = some true)
    (tyBadTake : PySem.W.typeIn K (.ref CBadTake) = some (.type "type"))
    (kcBadTake : PySem.W.keepIn K (.ref CBadTake) = true)
    (gaBadTake : PySem.W.findIn K (.ref CBadTake) "__getattribute__" = some (some (.builtin "BaseException.__getattribute__")))
    (ggBadTake : PySem.W.findIn K (.ref CBadTake) "__getattr__" = some none)
    (hdBadTake : PySem.W.hasDictIn K CBadTake = true)
    (xLBadNumber : K.lookup CBadNumber = some (excClassObj xnBadNumber xqBadNumber CBadNumber xNBadNumber xbBadNumber [.ref CTrickError, .type "ValueError", .type "Exception", .type "BaseException", .type "object"] true xsBadNumber xuBadNumber xaBadNumber xcBadNumber xdBadNumber x0BadNumber x1BadNumber x2BadNumber x3BadNumber x5BadNumber "ValueError.__new__"))
    (saBadNumber : PySem.W.findIn K (.ref CBadNumber) "__setattr__" = some (some (.builtin "object.__setattr__")))
    (eCBadNumber : PySem.W.subIn K (.ref CBadNumber) (.type "BaseException") = some true)
    (tyBadNumber : PySem.W.typeIn K (.ref CBadNumber) = some (.type "type"))
    (kcBadNumber : PySem.W.keepIn K (.ref CBadNumber) = true)
    (gaBadNumber : PySem.W.findIn K (.ref CBadNumber) "__getattribute__" = some (some (.builtin "BaseException.__getattribute__")))
    (ggBadNumber : PySem.W.findIn K (.ref CBadNumber) "__getattr__" = some none)
    (hdBadNumber : PySem.W.hasDictIn K CBadNumber = true)
    (nfBadNumber_n : PySem.W.findIn K (.ref CBadNumber) "n" = some none)
    (xLBadDivisor : K.lookup CBadDivisor = some (excClassObj xnBadDivisor xqBadDivisor CBadDivisor xNBadDivisor xbBadDivisor [.ref CTrickError, .type "ValueError", .type "Exception", .type "BaseException", .type "object"] true xsBadDivisor xuBadDivisor xaBadDivisor xcBadDivisor xdBadDivisor x0BadDivisor x1BadDivisor x2BadDivisor x3BadDivisor x5BadDivisor "ValueError.__new__"))
    (saBadDivisor : PySem.W.findIn K (.ref CBadDivisor) "__setattr__" = some (some (.builtin "object.__setattr__")))
    (eCBadDivisor : PySem.W.subIn K (.ref CBadDivisor) (.type "BaseException") = some true)
    (tyBadDivisor : PySem.W.typeIn K (.ref CBadDivisor) = some (.type "type"))
    (kcBadDivisor : PySem.W.keepIn K (.ref CBadDivisor) = true)
    (gaBadDivisor : PySem.W.findIn K (.ref CBadDivisor) "__getattribute__" = some (some (.builtin "BaseException.__getattribute__")))
    (ggBadDivisor : PySem.W.findIn K (.ref CBadDivisor) "__getattr__" = some none)
    (hdBadDivisor : PySem.W.hasDictIn K CBadDivisor = true)
    (xLBadWeights : K.lookup CBadWeights = some (excClassObj xnBadWeights xqBadWeights CBadWeights xNBadWeights xbBadWeights [.ref CTrickError, .type "ValueError", .type "Exception", .type "BaseException", .type "object"] true xsBadWeights xuBadWeights xaBadWeights xcBadWeights xdBadWeights x0BadWeights x1BadWeights x2BadWeights x3BadWeights x5BadWeights "ValueError.__new__"))
    (saBadWeights : PySem.W.findIn K (.ref CBadWeights) "__setattr__" = some (some (.builtin "object.__setattr__")))
    (eCBadWeights : PySem.W.subIn K (.ref CBadWeights) (.type "BaseException") = some true)
    (tyBadWeights : PySem.W.typeIn K (.ref CBadWeights) = some (.type "type"))
    (kcBadWeights : PySem.W.keepIn K (.ref CBadWeights) = true)
    (gaBadWeights : PySem.W.findIn K (.ref CBadWeights) "__getattribute__" = some (some (.builtin "BaseException.__getattribute__")))
    (ggBadWeights : PySem.W.findIn K (.ref CBadWeights) "__getattr__" = some none)
    (hdBadWeights : PySem.W.hasDictIn K CBadWeights = true)
    (nfBadWeights_index : PySem.W.findIn K (.ref CBadWeights) "index" = some none)
    (xLBadSum : K.lookup CBadSum = some (excClassObj xnBadSum xqBadSum CBadSum xNBadSum xbBadSum [.ref CTrickError, .type "ValueError", .type "Exception", .type "BaseException", .type "object"] true xsBadSum xuBadSum xaBadSum xcBadSum xdBadSum x0BadSum x1BadSum x2BadSum x3BadSum x5BadSum "ValueError.__new__"))
    (saBadSum : PySem.W.findIn K (.ref CBadSum) "__setattr__" = some (some (.builtin "object.__setattr__")))
    (eCBadSum : PySem.W.subIn K (.ref CBadSum) (.type "BaseException") = some true)
    (tyBadSum : PySem.W.typeIn K (.ref CBadSum) = some (.type "type"))
    (kcBadSum : PySem.W.keepIn K (.ref CBadSum) = true)
    (gaBadSum : PySem.W.findIn K (.ref CBadSum) "__getattribute__" = some (some (.builtin "BaseException.__getattribute__")))
    (ggBadSum : PySem.W.findIn K (.ref CBadSum) "__getattr__" = some none)
    (hdBadSum : PySem.W.hasDictIn K CBadSum = true)
    (sbBadBase_BadSum : PySem.W.subIn K (.ref CBadBase) (.ref CBadSum) = some false)
    (sbBadTake_BadSum : PySem.W.subIn K (.ref CBadTake) (.ref CBadSum) = some false)
    (sbBadNumber_BadSum : PySem.W.subIn K (.ref CBadNumber) (.ref CBadSum) = some false)
    (sbBadDivisor_BadSum : PySem.W.subIn K (.ref CBadDivisor) (.ref CBadSum) = some false)
    (sbBadWeights_BadSum : PySem.W.subIn K (.ref CBadWeights) (.ref CBadSum) = some false)
    (sbBadSum_BadSum : PySem.W.subIn K (.ref CBadSum) (.ref CBadSum) = some true)
    (sbBadBase_BadBase : PySem.W.subIn K (.ref CBadBase) (.ref CBadBase) = some true)
    (sbBadTake_BadBase : PySem.W.subIn K (.ref CBadTake) (.ref CBadBase) = some false)
    (sbBadNumber_BadBase : PySem.W.subIn K (.ref CBadNumber) (.ref CBadBase) = some false)
    (sbBadDivisor_BadBase : PySem.W.subIn K (.ref CBadDivisor) (.ref CBadBase) = some false)
    (sbBadWeights_BadBase : PySem.W.subIn K (.ref CBadWeights) (.ref CBadBase) = some false)
    (sbBadSum_BadBase : PySem.W.subIn K (.ref CBadSum) (.ref CBadBase) = some false)
    (sbBadBase_BadTake : PySem.W.subIn K (.ref CBadBase) (.ref CBadTake) = some false)
    (sbBadTake_BadTake : PySem.W.subIn K (.ref CBadTake) (.ref CBadTake) = some true)
    (sbBadNumber_BadTake : PySem.W.subIn K (.ref CBadNumber) (.ref CBadTake) = some false)
    (sbBadDivisor_BadTake : PySem.W.subIn K (.ref CBadDivisor) (.ref CBadTake) = some false)
    (sbBadWeights_BadTake : PySem.W.subIn K (.ref CBadWeights) (.ref CBadTake) = some false)
    (sbBadSum_BadTake : PySem.W.subIn K (.ref CBadSum) (.ref CBadTake) = some false)
    (sbBadBase_BadWeights : PySem.W.subIn K (.ref CBadBase) (.ref CBadWeights) = some false)
    (sbBadTake_BadWeights : PySem.W.subIn K (.ref CBadTake) (.ref CBadWeights) = some false)
    (sbBadNumber_BadWeights : PySem.W.subIn K (.ref CBadNumber) (.ref CBadWeights) = some false)
    (sbBadDivisor_BadWeights : PySem.W.subIn K (.ref CBadDivisor) (.ref CBadWeights) = some false)
    (sbBadWeights_BadWeights : PySem.W.subIn K (.ref CBadWeights) (.ref CBadWeights) = some true)
    (sbBadSum_BadWeights : PySem.W.subIn K (.ref CBadSum) (.ref CBadWeights) = some false)
    (aCSum : PySem.W.nsIn K mainGlobals "Sum" = some (some (.ref CSum)))
    (pgSum : PySem.W.plainGet K CSum Str.empty = true)
    (hdSum : PySem.W.hasDictIn K CSum = true)
    (poSum : PySem.W.plainOver K CSum = true)
    (saSum : PySem.W.findIn K (.ref CSum) "__setattr__" = some (some (.builtin "object.__setattr__")))
    (mkSum : PySem.W.makesIn K CSum = true)
    (kcSum : PySem.W.keepIn K (.ref CSum) = true)
    (icSum : PySem.W.findIn K (.ref CSum) "__class__" = some (some (.builtin "object.__class__")))
    (tySum : PySem.W.typeIn K (.ref CSum) = some (.type "type"))
    (ilSum : PySem.W.isClsIn K CSum = true)
    (mcSum : PySem.W.mroIn K CSum (.type "object") = some true)
    (nfSum_basis : PySem.W.findIn K (.ref CSum) "basis" = some none)
    (nfSum_many : PySem.W.findIn K (.ref CSum) "many" = some none)
    (nfSum_begun : PySem.W.findIn K (.ref CSum) "begun" = some none)
    (nfSum_again : PySem.W.findIn K (.ref CSum) "again" = some none)
    (nfSum_block : PySem.W.findIn K (.ref CSum) "block" = some none)
    (snA : PySem.W.specialIn K (.builtin "object.__class__") "__get__" = some (some (.builtin "getset_descriptor.__get__")))
    (tkA : PySem.W.takesIn K (.builtin "object.__class__") = some true)
    (v_LEAST_BASE : PySem.W.nsIn K mainGlobals "LEAST_BASE" = some (some (.int (2) tk_LEAST_BASE)))
    (v_MOST_BASE : PySem.W.nsIn K mainGlobals "MOST_BASE" = some (some (.int (16) tk_MOST_BASE)))
    (v_MOST_NUMBER : PySem.W.nsIn K mainGlobals "MOST_NUMBER" = some (some (.int (10000000000000000000000000000000000000000) tk_MOST_NUMBER)))
    (v_MOST_TAKE : PySem.W.nsIn K mainGlobals "MOST_TAKE" = some (some (.int (2) tk_MOST_TAKE)))
    (v_MOST_WEIGHT : PySem.W.nsIn K mainGlobals "MOST_WEIGHT" = some (some (.int (1000000) tk_MOST_WEIGHT)))
    (v_MOST_WEIGHTS : PySem.W.nsIn K mainGlobals "MOST_WEIGHTS" = some (some (.int (12) tk_MOST_WEIGHTS)))
    (v_MOST_SUM_DIVISOR : PySem.W.nsIn K mainGlobals "MOST_SUM_DIVISOR" = some (some (.int (30) tk_MOST_SUM_DIVISOR)))
    (z_isinstance : PySem.W.nsIn K mainGlobals "isinstance" = some none)
    (z_int : PySem.W.nsIn K mainGlobals "int" = some none)
    (z_bool : PySem.W.nsIn K mainGlobals "bool" = some none)
    (z_range : PySem.W.nsIn K mainGlobals "range" = some none)
    (z_enumerate : PySem.W.nsIn K mainGlobals "enumerate" = some none)
    (z_tuple : PySem.W.nsIn K mainGlobals "tuple" = some none)
    (z_len : PySem.W.nsIn K mainGlobals "len" = some none)
    (z_list : PySem.W.nsIn K mainGlobals "list" = some none)
    : ∃ fd : FuncData, (∀ (s : Shared) (v : Value), BindsTo s fd ⟨[v], []⟩ [("_law_script", v)]) ∧ ∀ base : Heap, K.In base → base.Ns mainGlobals mg → FnOk l.prog w K mg base CX0 7 fa fd ["_law_script"] (sp_law K) := by
  have e := hfa.symm.trans (PySem.W.mg_of X G a27)
  cases e
  have F0 := fun_mk (st := s_BadBase_init) l0 c0 k0
  have b0 := F0.binds (ps := p_BadBase_init) fun _ _ _ _ _ _ us hl => match us, hl with | [_], _ => rfl
  have F1 := fun_mk (st := s_BadTake_init) l1 c1 k1
  have b1 := F1.binds (ps := p_BadTake_init) fun _ _ _ _ _ _ us hl => match us, hl with | [_], _ => rfl
  have F2 := fun_mk (st := s_BadNumber_init) l2 c2 k2
  have b2 := F2.binds (ps := p_BadNumber_init) fun _ _ _ _ _ _ us hl => match us, hl with | [_, _], _ => rfl
  have F3 := fun_mk (st := s_BadDivisor_init) l3 c3 k3
  have b3 := F3.binds (ps := p_BadDivisor_init) fun _ _ _ _ _ _ us hl => match us, hl with | [_], _ => rfl
  have F4 := fun_mk (st := s_BadWeights_init) l4 c4 k4
  have b4 := F4.binds (ps := p_BadWeights_init) fun _ _ _ _ _ _ us hl => match us, hl with | [_, _], _ => rfl
  have F5 := fun_mk (st := s_BadSum_init) l5 c5 k5
  have b5 := F5.binds (ps := p_BadSum_init) fun _ _ _ _ _ _ us hl => match us, hl with | [_], _ => rfl
  have F6 := fun_mk (st := s_is_from) l6 c6 k6
  have b6 := F6.binds (ps := p_is_from) fun _ _ _ _ _ _ us hl => match us, hl with | [_, _, _], _ => rfl
  have F7 := fun_mk (st := s_need_base) l7 c7 k7
  have b7 := F7.binds (ps := p_need_base) fun _ _ _ _ _ _ us hl => match us, hl with | [_], _ => rfl
  have F8 := fun_mk (st := s_need_divisor) l8 c8 k8
  have b8 := F8.binds (ps := p_need_divisor) fun _ _ _ _ _ _ us hl => match us, hl with | [_, _], _ => rfl
  have F9 := fun_mk (st := s_power) l9 c9 k9
  have b9 := F9.binds (ps := p_power) fun _ _ _ _ _ _ us hl => match us, hl with | [_, _], _ => rfl
  have F10 := fun_mk (st := s_need_weights) l10 c10 k10
  have b10 := F10.binds (ps := p_need_weights) fun _ _ _ _ _ _ us hl => match us, hl with | [_, _], _ => rfl
  have F11 := fun_mk (st := s_Sum_init) l11 c11 k11
  have b11 := F11.binds (ps := p_Sum_init) fun _ _ _ _ _ _ us hl => match us, hl with | [_, _, _, _, _], _ => rfl
  have F12 := fun_mk (st := s_Sum_base) l12 c12 k12
  have b12 := F12.binds (ps := p_Sum_base) fun _ _ _ _ _ _ us hl => match us, hl with | [_], _ => rfl
  have F13 := fun_mk (st := s_Sum_take) l13 c13 k13
  have b13 := F13.binds (ps := p_Sum_take) fun _ _ _ _ _ _ us hl => match us, hl with | [_], _ => rfl
  have F14 := fun_mk (st := s_Sum_first) l14 c14 k14
  have b14 := F14.binds (ps := p_Sum_first) fun _ _ _ _ _ _ us hl => match us, hl with | [_], _ => rfl
  have F15 := fun_mk (st := s_Sum_loop) l15 c15 k15
  have b15 := F15.binds (ps := p_Sum_loop) fun _ _ _ _ _ _ us hl => match us, hl with | [_], _ => rfl
  have F16 := fun_mk (st := s_Sum_eq) l16 c16 k16
  have b16 := F16.binds (ps := p_Sum_eq) fun _ _ _ _ _ _ us hl => match us, hl with | [_, _], _ => rfl
  have F17 := fun_mk (st := s_need_sum) l17 c17 k17
  have b17 := F17.binds (ps := p_need_sum) fun _ _ _ _ _ _ us hl => match us, hl with | [_], _ => rfl
  have F18 := fun_mk (st := s_total) l18 c18 k18
  have b18 := F18.binds (ps := p_total) fun _ _ _ _ _ _ us hl => match us, hl with | [_, _], _ => rfl
  have F19 := fun_mk (st := s_sum_fails) l19 c19 k19
  have b19 := F19.binds (ps := p_sum_fails) fun _ _ _ _ _ _ us hl => match us, hl with | [_, _], _ => rfl
  have F20 := fun_mk (st := s_sum_rest_fails) l20 c20 k20
  have b20 := F20.binds (ps := p_sum_rest_fails) fun _ _ _ _ _ _ us hl => match us, hl with | [_, _], _ => rfl
  have F21 := fun_mk (st := s_sum_tells) l21 c21 k21
  have b21 := F21.binds (ps := p_sum_tells) fun _ _ _ _ _ _ us hl => match us, hl with | [_, _], _ => rfl
  have F22 := fun_mk (st := s_law_taken) l22 c22 k22
  have b22 := F22.binds (ps := p_law_taken) fun _ _ _ _ _ _ us hl => match us, hl with | [_, _], _ => rfl
  have F23 := fun_mk (st := s_law_power) l23 c23 k23
  have b23 := F23.binds (ps := p_law_power) fun _ _ _ _ _ _ us hl => match us, hl with | [_, _], _ => rfl
  have F24 := fun_mk (st := s_law_sum) l24 c24 k24
  have b24 := F24.binds (ps := p_law_sum) fun _ _ _ _ _ _ us hl => match us, hl with | [_, _], _ => rfl
  have F25 := fun_mk (st := s_law_refused) l25 c25 k25
  have b25 := F25.binds (ps := p_law_refused) fun _ _ _ _ _ _ us hl => match us, hl with | [_, _, _, _], _ => rfl
  have F26 := fun_mk (st := s_law_unsummed) l26 c26 k26
  have b26 := F26.binds (ps := p_law_unsummed) fun _ _ _ _ _ _ us hl => match us, hl with | [_, _], _ => rfl
  have F27 := fun_mk (st := s_law) l27 c27 k27
  have b27 := F27.binds (ps := p_law) fun _ _ _ _ _ _ us hl => match us, hl with | [_], _ => rfl
  have T : Txt K mg ⟨f0, _, f1, _, f2, _, f3, _, f4, _, f5, _, f6, _, f7, _, f8, _, f9, _, f10, _, f11, _, f12, _, f13, _, f14, _, f15, _, f16, _, f17, _, f18, _, f19, _, f20, _, f21, _, f22, _, f23, _, f24, _, f25, _, f26, _, fa, _, CSum, CBadBase, CBadTake, CBadNumber, CBadDivisor, CBadWeights, CBadSum, CTrickError, P12, P13, P14, P15⟩ :=
    { F_BadBase_init := F0,
      b_BadBase_init := b0,
      F_BadTake_init := F1,
      b_BadTake_init := b1,
      F_BadNumber_init := F2,
      b_BadNumber_init := b2,
      F_BadDivisor_init := F3,
      b_BadDivisor_init := b3,
      F_BadWeights_init := F4,
      b_BadWeights_init := b4,
      F_BadSum_init := F5,
      b_BadSum_init := b5,
      F_is_from := F6,
      b_is_from := b6,
      g_is_from := PySem.W.mg_of X G a6,
      F_need_base := F7,
      b_need_base := b7,
      g_need_base := PySem.W.mg_of X G a7,
      F_need_divisor := F8,
      b_need_divisor := b8,
      g_need_divisor := PySem.W.mg_of X G a8,
      F_power := F9,
      b_power := b9,
      g_power := PySem.W.mg_of X G a9,
      F_need_weights := F10,
      b_need_weights := b10,
      g_need_weights := PySem.W.mg_of X G a10,
      F_Sum_init := F11,
      b_Sum_init := b11,
      F_Sum_base := F12,
      b_Sum_base := b12,
      pr_Sum_base := ⟨a12, pg12, pt12, ⟨_, pr12⟩⟩,
      F_Sum_take := F13,
      b_Sum_take := b13,
      pr_Sum_take := ⟨a13, pg13, pt13, ⟨_, pr13⟩⟩,
      F_Sum_first := F14,
      b_Sum_first := b14,
      pr_Sum_first := ⟨a14, pg14, pt14, ⟨_, pr14⟩⟩,
      F_Sum_loop := F15,
      b_Sum_loop := b15,
      pr_Sum_loop := ⟨a15, pg15, pt15, ⟨_, pr15⟩⟩,
      F_Sum_eq := F16,
      b_Sum_eq := b16,
      m_Sum_eq := ⟨a16, i16, k16⟩,
      F_need_sum := F17,
      b_need_sum := b17,
      g_need_sum := PySem.W.mg_of X G a17,
      F_total := F18,
      b_total := b18,
      g_total := PySem.W.mg_of X G a18,
      F_sum_fails := F19,
      b_sum_fails := b19,
      g_sum_fails := PySem.W.mg_of X G a19,
      F_sum_rest_fails := F20,
      b_sum_rest_fails := b20,
      g_sum_rest_fails := PySem.W.mg_of X G a20,
      F_sum_tells := F21,
      b_sum_tells := b21,
      g_sum_tells := PySem.W.mg_of X G a21,
      F_law_taken := F22,
      b_law_taken := b22,
      g_law_taken := PySem.W.mg_of X G a22,
      F_law_power := F23,
      b_law_power := b23,
      g_law_power := PySem.W.mg_of X G a23,
      F_law_sum := F24,
      b_law_sum := b24,
      g_law_sum := PySem.W.mg_of X G a24,
      F_law_refused := F25,
      b_law_refused := b25,
      g_law_refused := PySem.W.mg_of X G a25,
      F_law_unsummed := F26,
      b_law_unsummed := b26,
      g_law_unsummed := PySem.W.mg_of X G a26,
      F_law := F27,
      b_law := b27,
      g_law := PySem.W.mg_of X G a27,
      g_Sum := PySem.W.mg_of X G aCSum,
      cl_Sum := ⟨pgSum, hdSum, poSum, saSum⟩,
      is_Sum := ⟨⟨pgSum, hdSum, poSum, saSum⟩, icSum, snA, tkA, mcSum, if_pos (beq_self_eq_true _)⟩,
      ty_Sum := by rw [show (PySem.W.clsIn K CSum).isSome = true from ilSum, tySum]; rfl,
      M_Sum := ⟨mkSum, a11, i11, kcSum⟩,
      nf_Sum_basis := nfSum_basis,
      nf_Sum_many := nfSum_many,
      nf_Sum_begun := nfSum_begun,
      nf_Sum_again := nfSum_again,
      nf_Sum_block := nfSum_block,
      g_BadBase := PySem.W.mg_of X G aCBadBase,
      g_BadTake := PySem.W.mg_of X G aCBadTake,
      g_BadNumber := PySem.W.mg_of X G aCBadNumber,
      g_BadDivisor := PySem.W.mg_of X G aCBadDivisor,
      g_BadWeights := PySem.W.mg_of X G aCBadWeights,
      g_BadSum := PySem.W.mg_of X G aCBadSum,
      g_TrickError := PySem.W.mg_of X G aCTrickError,
      oi_TrickError := ⟨rdTrickError, gtTrickError, fcTrickError⟩,
      ox_BadBase := ⟨⟨_, _, _, _, _, _, _, _, _, _, _, _, _, _, _, xLBadBase, (show PySem.HandSPX.refsVE [.type "ValueError", .type "Exception", .type "BaseException", .type "object"] = true from by decide +kernel)⟩, saBadBase, eCBadBase, tyBadBase, kcBadBase⟩,
      xf_BadBase := ⟨gaBadBase, ggBadBase, eCBadBase, hdBadBase⟩,
      ix_BadBase := a0,
      tx_BadBase := beq_iff_eq.mp i0,
      em_BadBase_BadSum := PySem.W.exm_ref eCBadSum hdBadSum tyBadSum sbBadBase_BadSum,
      em_BadBase_BadBase := PySem.W.exm_ref eCBadBase hdBadBase tyBadBase sbBadBase_BadBase,
      em_BadBase_BadTake := PySem.W.exm_ref eCBadTake hdBadTake tyBadTake sbBadBase_BadTake,
      em_BadBase_BadWeights := PySem.W.exm_ref eCBadWeights hdBadWeights tyBadWeights sbBadBase_BadWeights,
      ox_BadTake := ⟨⟨_, _, _, _, _, _, _, _, _, _, _, _, _, _, _, xLBadTake, (show PySem.HandSPX.refsVE [.type "ValueError", .type "Exception", .type "BaseException", .type "object"] = true from by decide +kernel)⟩, saBadTake, eCBadTake, tyBadTake, kcBadTake⟩,
      xf_BadTake := ⟨gaBadTake, ggBadTake, eCBadTake, hdBadTake⟩,
      ix_BadTake := a1,
      tx_BadTake := beq_iff_eq.mp i1,
      em_BadTake_BadSum := PySem.W.exm_ref eCBadSum hdBadSum tyBadSum sbBadTake_BadSum,
      em_BadTake_BadBase := PySem.W.exm_ref eCBadBase hdBadBase tyBadBase sbBadTake_BadBase,
      em_BadTake_BadTake := PySem.W.exm_ref eCBadTake hdBadTake tyBadTake sbBadTake_BadTake,
      em_BadTake_BadWeights := PySem.W.exm_ref eCBadWeights hdBadWeights tyBadWeights sbBadTake_BadWeights,
      ox_BadNumber := ⟨⟨_, _, _, _, _, _, _, _, _, _, _, _, _, _, _, xLBadNumber, (show PySem.HandSPX.refsVE [.type "ValueError", .type "Exception", .type "BaseException", .type "object"] = true from by decide +kernel)⟩, saBadNumber, eCBadNumber, tyBadNumber, kcBadNumber⟩,
      xf_BadNumber := ⟨gaBadNumber, ggBadNumber, eCBadNumber, hdBadNumber⟩,
      ix_BadNumber := a2,
      tx_BadNumber := beq_iff_eq.mp i2,
      nx_BadNumber_n := nfBadNumber_n,
      em_BadNumber_BadSum := PySem.W.exm_ref eCBadSum hdBadSum tyBadSum sbBadNumber_BadSum,
      em_BadNumber_BadBase := PySem.W.exm_ref eCBadBase hdBadBase tyBadBase sbBadNumber_BadBase,
      em_BadNumber_BadTake := PySem.W.exm_ref eCBadTake hdBadTake tyBadTake sbBadNumber_BadTake,
      em_BadNumber_BadWeights := PySem.W.exm_ref eCBadWeights hdBadWeights tyBadWeights sbBadNumber_BadWeights,
      ox_BadDivisor := ⟨⟨_, _, _, _, _, _, _, _, _, _, _, _, _, _, _, xLBadDivisor, (show PySem.HandSPX.refsVE [.type "ValueError", .type "Exception", .type "BaseException", .type "object"] = true from by decide +kernel)⟩, saBadDivisor, eCBadDivisor, tyBadDivisor, kcBadDivisor⟩,
      xf_BadDivisor := ⟨gaBadDivisor, ggBadDivisor, eCBadDivisor, hdBadDivisor⟩,
      ix_BadDivisor := a3,
      tx_BadDivisor := beq_iff_eq.mp i3,
      em_BadDivisor_BadSum := PySem.W.exm_ref eCBadSum hdBadSum tyBadSum sbBadDivisor_BadSum,
      em_BadDivisor_BadBase := PySem.W.exm_ref eCBadBase hdBadBase tyBadBase sbBadDivisor_BadBase,
      em_BadDivisor_BadTake := PySem.W.exm_ref eCBadTake hdBadTake tyBadTake sbBadDivisor_BadTake,
      em_BadDivisor_BadWeights := PySem.W.exm_ref eCBadWeights hdBadWeights tyBadWeights sbBadDivisor_BadWeights,
      ox_BadWeights := ⟨⟨_, _, _, _, _, _, _, _, _, _, _, _, _, _, _, xLBadWeights, (show PySem.HandSPX.refsVE [.type "ValueError", .type "Exception", .type "BaseException", .type "object"] = true from by decide +kernel)⟩, saBadWeights, eCBadWeights, tyBadWeights, kcBadWeights⟩,
      xf_BadWeights := ⟨gaBadWeights, ggBadWeights, eCBadWeights, hdBadWeights⟩,
      ix_BadWeights := a4,
      tx_BadWeights := beq_iff_eq.mp i4,
      nx_BadWeights_index := nfBadWeights_index,
      em_BadWeights_BadSum := PySem.W.exm_ref eCBadSum hdBadSum tyBadSum sbBadWeights_BadSum,
      em_BadWeights_BadBase := PySem.W.exm_ref eCBadBase hdBadBase tyBadBase sbBadWeights_BadBase,
      em_BadWeights_BadTake := PySem.W.exm_ref eCBadTake hdBadTake tyBadTake sbBadWeights_BadTake,
      em_BadWeights_BadWeights := PySem.W.exm_ref eCBadWeights hdBadWeights tyBadWeights sbBadWeights_BadWeights,
      ox_BadSum := ⟨⟨_, _, _, _, _, _, _, _, _, _, _, _, _, _, _, xLBadSum, (show PySem.HandSPX.refsVE [.type "ValueError", .type "Exception", .type "BaseException", .type "object"] = true from by decide +kernel)⟩, saBadSum, eCBadSum, tyBadSum, kcBadSum⟩,
      xf_BadSum := ⟨gaBadSum, ggBadSum, eCBadSum, hdBadSum⟩,
      ix_BadSum := a5,
      tx_BadSum := beq_iff_eq.mp i5,
      em_BadSum_BadSum := PySem.W.exm_ref eCBadSum hdBadSum tyBadSum sbBadSum_BadSum,
      em_BadSum_BadBase := PySem.W.exm_ref eCBadBase hdBadBase tyBadBase sbBadSum_BadBase,
      em_BadSum_BadTake := PySem.W.exm_ref eCBadTake hdBadTake tyBadTake sbBadSum_BadTake,
      em_BadSum_BadWeights := PySem.W.exm_ref eCBadWeights hdBadWeights tyBadWeights sbBadSum_BadWeights,
      v_LEAST_BASE := ⟨_, PySem.W.mg_of X G v_LEAST_BASE⟩,
      v_MOST_BASE := ⟨_, PySem.W.mg_of X G v_MOST_BASE⟩,
      v_MOST_NUMBER := ⟨_, PySem.W.mg_of X G v_MOST_NUMBER⟩,
      v_MOST_TAKE := ⟨_, PySem.W.mg_of X G v_MOST_TAKE⟩,
      v_MOST_WEIGHT := ⟨_, PySem.W.mg_of X G v_MOST_WEIGHT⟩,
      v_MOST_WEIGHTS := ⟨_, PySem.W.mg_of X G v_MOST_WEIGHTS⟩,
      v_MOST_SUM_DIVISOR := ⟨_, PySem.W.mg_of X G v_MOST_SUM_DIVISOR⟩,
      n_isinstance := PySem.W.mg_none_of X G z_isinstance,
      n_int := PySem.W.mg_none_of X G z_int,
      n_bool := PySem.W.mg_none_of X G z_bool,
      n_range := PySem.W.mg_none_of X G z_range,
      n_enumerate := PySem.W.mg_none_of X G z_enumerate,
      n_tuple := PySem.W.mg_none_of X G z_tuple,
      n_len := PySem.W.mg_none_of X G z_len,
      n_list := PySem.W.mg_none_of X G z_list }
  exact ⟨_, fun s v => .of_eq rfl, fun base _ _ => ok_law T⟩
theorem walk {l : PySem.W.OpenLaw} {q : Program} {loose : List Str} {XP : (Str → Option Value) → Heap → Prop} {YP : World → Heap → Prop} {d : DefRec} {K : Params → Frag} (hn : l.most = some 63) (hdf : d.params.defaults = [])
    (hY : ∀ (w : World) (h : Heap), YP w h → (K w.params).In h)
    (F : ∀ (w : World) (mg : Str → Option Value) (fa : Addr) (h : Heap), (K w.params).In h → h.Ns mainGlobals mg → mg d.name = some (.ref fa) →
      ∃ fd : FuncData, (∀ (s : Shared) (u : Value), BindsTo s fd ⟨[u], []⟩ [("_law_script", u)]) ∧ ∀ base : Heap, (K w.params).In base → base.Ns mainGlobals mg → FnOk l.prog w (K w.params) mg base CX0 7 fa fd ["_law_script"] (sp_law (K w.params))) :
    PySem.W.WalkO q loose XP YP l.row.toRowW d [] (fun f vs => PySem.call f vs) :=
  L2.walk_of (n := 63) (k := 7) (x := "_law_script") (CX := fun _ => CX0) (sp := fun w => sp_law (K w.params)) hn (by decide) hdf ⟨rfl, by decide, by decide⟩ hY F (fun _ _ a ns hl _ hS => ⟨a, ns, rfl, hS, hl, fun _ => rfl⟩) fun _ _ _ _ _ z => z
end Toy

open PySem PySem.W PyProof.Rows
set_option maxRecDepth 100000 in
set_option maxHeartbeats 0 in
theorem PySem.Challenge.cw_resttricks_k16_sums_refused_holds : PySem.Challenge.rw_resttricks_k16_sums_refused.Holds := by
  w_on; o_law; k_head; (case hw => w_witness2)
  k_fill
  refine Toy.walk (l := PySem.Challenge.rw_resttricks_k16_sums_refused) rfl rfl (fun w h Y => PySem.W.kIn_of Y) ?F
  case F =>
    intro w mg fa h KX G hmg
    refine' Toy.all_mk KX G hmg ?a0 ?i0 ?l0 ?c0 ?k0 ?a1 ?i1 ?l1 ?c1 ?k1 ?a2 ?i2 ?l2 ?c2 ?k2 ?a3 ?i3 ?l3 ?c3 ?k3 ?a4 ?i4 ?l4 ?c4 ?k4 ?a5 ?i5 ?l5 ?c5 ?k5 ?a6 ?l6 ?c6 ?k6 ?a7 ?l7 ?c7 ?k7 ?a8 ?l8 ?c8 ?k8 ?a9 ?l9 ?c9 ?k9 ?a10 ?l10 ?c10 ?k10 ?a11 ?i11 ?l11 ?c11 ?k11 ?a12 ?pg12 ?pt12 ?pr12 ?l12 ?c12 ?k12 ?a13 ?pg13 ?pt13 ?pr13 ?l13 ?c13 ?k13 ?a14 ?pg14 ?pt14 ?pr14 ?l14 ?c14 ?k14 ?a15 ?pg15 ?pt15 ?pr15 ?l15 ?c15 ?k15 ?a16 ?i16 ?l16 ?c16 ?k16 ?a17 ?l17 ?c17 ?k17 ?a18 ?l18 ?c18 ?k18 ?a19 ?l19 ?c19 ?k19 ?a20 ?l20 ?c20 ?k20 ?a21 ?l21 ?c21 ?k21 ?a22 ?l22 ?c22 ?k22 ?a23 ?l23 ?c23 ?k23 ?a24 ?l24 ?c24 ?k24 ?a25 ?l25 ?c25 ?k25 ?a26 ?l26 ?c26 ?k26 ?a27 ?l27 ?c27 ?k27 ?aCBadBase ?aCBadTake ?aCBadNumber ?aCBadDivisor ?aCBadWeights ?aCBadSum ?aCTrickError ?rdTrickError ?gtTrickError ?fcTrickError ?xLBadBase ?saBadBase ?eCBadBase ?tyBadBase ?kcBadBase ?gaBadBase ?ggBadBase ?hdBadBase ?xLBadTake ?saBadTake ?eCBadTake ?tyBadTake ?kcBadTake ?gaBadTake ?ggBadTake ?hdBadTake ?xLBadNumber ?saBadNumber ?eCBadNumber ?tyBadNumber ?kcBadNumber ?gaBadNumber ?ggBadNumber ?hdBadNumber ?nfBadNumber_n ?xLBadDivisor ?saBadDivisor ?eCBadDivisor ?tyBadDivisor ?kcBadDivisor ?gaBadDivisor ?ggBadDivisor ?hdBadDivisor ?xLBadWeights ?saBadWeights ?eCBadWeights ?tyBadWeights ?kcBadWeights ?gaBadWeights ?ggBadWeights ?hdBadWeights ?nfBadWeights_index ?xLBadSum ?saBadSum ?eCBadSum ?tyBadSum ?kcBadSum ?gaBadSum ?ggBadSum ?hdBadSum ?sbBadBase_BadSum ?sbBadTake_BadSum ?sbBadNumber_BadSum ?sbBadDivisor_BadSum ?sbBadWeights_BadSum ?sbBadSum_BadSum ?sbBadBase_BadBase ?sbBadTake_BadBase ?sbBadNumber_BadBase ?sbBadDivisor_BadBase ?sbBadWeights_BadBase ?sbBadSum_BadBase ?sbBadBase_BadTake ?sbBadTake_BadTake ?sbBadNumber_BadTake ?sbBadDivisor_BadTake ?sbBadWeights_BadTake ?sbBadSum_BadTake ?sbBadBase_BadWeights ?sbBadTake_BadWeights ?sbBadNumber_BadWeights ?sbBadDivisor_BadWeights ?sbBadWeights_BadWeights ?sbBadSum_BadWeights ?aCSum ?pgSum ?hdSum ?poSum ?saSum ?mkSum ?kcSum ?icSum ?tySum ?ilSum ?mcSum ?nfSum_basis ?nfSum_many ?nfSum_begun ?nfSum_again ?nfSum_block ?snA ?tkA ?v_LEAST_BASE ?v_MOST_BASE ?v_MOST_NUMBER ?v_MOST_TAKE ?v_MOST_WEIGHT ?v_MOST_WEIGHTS ?v_MOST_SUM_DIVISOR ?z_isinstance ?z_int ?z_bool ?z_range ?z_enumerate ?z_tuple ?z_len ?z_list
    (case aCBadBase => k_is)
    (case aCBadTake => k_is)
    (case aCBadNumber => k_is)
    (case aCBadDivisor => k_is)
    (case aCBadWeights => k_is)
    (case aCBadSum => k_is)
    (case aCTrickError => k_is)
    (case aCSum => k_is)
    (case a0 => k_is)
    (case i0 => k_is)
    (case l0 => k_is)
    (case c0 => k_is)
    (case k0 => k_is)
    (case a1 => k_is)
    (case i1 => k_is)
    (case l1 => k_is)
    (case c1 => k_is)
    (case k1 => k_is)
    (case a2 => k_is)
    (case i2 => k_is)
    (case l2 => k_is)
    (case c2 => k_is)
    (case k2 => k_is)
    (case a3 => k_is)
    (case i3 => k_is)
    (case l3 => k_is)
    (case c3 => k_is)
    (case k3 => k_is)
    (case a4 => k_is)
    (case i4 => k_is)
    (case l4 => k_is)
    (case c4 => k_is)
    (case k4 => k_is)
    (case a5 => k_is)
    (case i5 => k_is)
    (case l5 => k_is)
    (case c5 => k_is)
    (case k5 => k_is)
    (case a6 => k_is)
    (case l6 => k_is)
    (case c6 => k_is)
    (case k6 => k_is)
    (case a7 => k_is)
    (case l7 => k_is)
    (case c7 => k_is)
    (case k7 => k_is)
    (case a8 => k_is)
    (case l8 => k_is)
    (case c8 => k_is)
    (case k8 => k_is)
    (case a9 => k_is)
    (case l9 => k_is)
    (case c9 => k_is)
    (case k9 => k_is)
    (case a10 => k_is)
    (case l10 => k_is)
    (case c10 => k_is)
    (case k10 => k_is)
    (case a11 => k_is)
    (case i11 => k_is)
    (case l11 => k_is)
    (case c11 => k_is)
    (case k11 => k_is)
    (case a12 => k_is)
    (case pg12 => k_is)
    (case pt12 => k_is)
    (case pr12 => k_is)
    (case l12 => k_is)
    (case c12 => k_is)
    (case k12 => k_is)
    (case a13 => k_is)
    (case pg13 => k_is)
    (case pt13 => k_is)
    (case pr13 => k_is)
    (case l13 => k_is)
    (case c13 => k_is)
    (case k13 => k_is)
    (case a14 => k_is)
    (case pg14 => k_is)
    (case pt14 => k_is)
    (case pr14 => k_is)
    (case l14 => k_is)
    (case c14 => k_is)
    (case k14 => k_is)
    (case a15 => k_is)
    (case pg15 => k_is)
    (case pt15 => k_is)
    (case pr15 => k_is)
    (case l15 => k_is)
    (case c15 => k_is)
    (case k15 => k_is)
    (case a16 => k_is)
    (case i16 => k_is)
    (case l16 => k_is)
    (case c16 => k_is)
    (case k16 => k_is)
    (case a17 => k_is)
    (case l17 => k_is)
    (case c17 => k_is)
    (case k17 => k_is)
    (case a18 => k_is)
    (case l18 => k_is)
    (case c18 => k_is)
    (case k18 => k_is)
    (case a19 => k_is)
    (case l19 => k_is)
    (case c19 => k_is)
    (case k19 => k_is)
    (case a20 => k_is)
    (case l20 => k_is)
    (case c20 => k_is)
    (case k20 => k_is)
    (case a21 => k_is)
    (case l21 => k_is)
    (case c21 => k_is)
    (case k21 => k_is)
    (case a22 => k_is)
    (case l22 => k_is)
    (case c22 => k_is)
    (case k22 => k_is)
    (case a23 => k_is)
    (case l23 => k_is)
    (case c23 => k_is)
    (case k23 => k_is)
    (case a24 => k_is)
    (case l24 => k_is)
    (case c24 => k_is)
    (case k24 => k_is)
    (case a25 => k_is)
    (case l25 => k_is)
    (case c25 => k_is)
    (case k25 => k_is)
    (case a26 => k_is)
    (case l26 => k_is)
    (case c26 => k_is)
    (case k26 => k_is)
    (case a27 => k_is)
    (case l27 => k_is)
    (case c27 => k_is)
    (case k27 => k_is)
    (case rdTrickError => k_is)
    (case gtTrickError => k_is)
    (case fcTrickError => k_is)
    (case xLBadBase => k_is)
    (case saBadBase => k_is)
    (case eCBadBase => k_is)
    (case tyBadBase => k_is)
    (case kcBadBase => k_is)
    (case gaBadBase => k_is)
    (case ggBadBase => k_is)
    (case hdBadBase => k_is)
    (case xLBadTake => k_is)
    (case saBadTake => k_is)
    (case eCBadTake => k_is)
    (case tyBadTake => k_is)
    (case kcBadTake => k_is)
    (case gaBadTake => k_is)
    (case ggBadTake => k_is)
    (case hdBadTake => k_is)
    (case xLBadNumber => k_is)
    (case saBadNumber => k_is)
    (case eCBadNumber => k_is)
    (case tyBadNumber => k_is)
    (case kcBadNumber => k_is)
    (case gaBadNumber => k_is)
    (case ggBadNumber => k_is)
    (case hdBadNumber => k_is)
    (case nfBadNumber_n => k_is)
    (case xLBadDivisor => k_is)
    (case saBadDivisor => k_is)
    (case eCBadDivisor => k_is)
    (case tyBadDivisor => k_is)
    (case kcBadDivisor => k_is)
    (case gaBadDivisor => k_is)
    (case ggBadDivisor => k_is)
    (case hdBadDivisor => k_is)
    (case xLBadWeights => k_is)
    (case saBadWeights => k_is)
    (case eCBadWeights => k_is)
    (case tyBadWeights => k_is)
    (case kcBadWeights => k_is)
    (case gaBadWeights => k_is)
    (case ggBadWeights => k_is)
    (case hdBadWeights => k_is)
    (case nfBadWeights_index => k_is)
    (case xLBadSum => k_is)
    (case saBadSum => k_is)
    (case eCBadSum => k_is)
    (case tyBadSum => k_is)
    (case kcBadSum => k_is)
    (case gaBadSum => k_is)
    (case ggBadSum => k_is)
    (case hdBadSum => k_is)
    (case sbBadBase_BadSum => k_is)
    (case sbBadTake_BadSum => k_is)
    (case sbBadNumber_BadSum => k_is)
    (case sbBadDivisor_BadSum => k_is)
    (case sbBadWeights_BadSum => k_is)
    (case sbBadSum_BadSum => k_is)
    (case sbBadBase_BadBase => k_is)
    (case sbBadTake_BadBase => k_is)
    (case sbBadNumber_BadBase => k_is)
    (case sbBadDivisor_BadBase => k_is)
    (case sbBadWeights_BadBase => k_is)
    (case sbBadSum_BadBase => k_is)
    (case sbBadBase_BadTake => k_is)
    (case sbBadTake_BadTake => k_is)
    (case sbBadNumber_BadTake => k_is)
    (case sbBadDivisor_BadTake => k_is)
    (case sbBadWeights_BadTake => k_is)
    (case sbBadSum_BadTake => k_is)
    (case sbBadBase_BadWeights => k_is)
    (case sbBadTake_BadWeights => k_is)
    (case sbBadNumber_BadWeights => k_is)
    (case sbBadDivisor_BadWeights => k_is)
    (case sbBadWeights_BadWeights => k_is)
    (case sbBadSum_BadWeights => k_is)
    (case pgSum => k_is)
    (case hdSum => k_is)
    (case poSum => k_is)
    (case saSum => k_is)
    (case mkSum => k_is)
    (case kcSum => k_is)
    (case icSum => k_is)
    (case tySum => k_is)
    (case ilSum => k_is)
    (case mcSum => k_is)
    (case nfSum_basis => k_is)
    (case nfSum_many => k_is)
    (case nfSum_begun => k_is)
    (case nfSum_again => k_is)
    (case nfSum_block => k_is)
    (case snA => k_is)
    (case tkA => k_is)
    (case v_LEAST_BASE => k_is)
    (case v_MOST_BASE => k_is)
    (case v_MOST_NUMBER => k_is)
    (case v_MOST_TAKE => k_is)
    (case v_MOST_WEIGHT => k_is)
    (case v_MOST_WEIGHTS => k_is)
    (case v_MOST_SUM_DIVISOR => k_is)
    (case z_isinstance => k_is)
    (case z_int => k_is)
    (case z_bool => k_is)
    (case z_range => k_is)
    (case z_enumerate => k_is)
    (case z_tuple => k_is)
    (case z_len => k_is)
    (case z_list => k_is)
