import PyProof.Rows.All
import Wide.All
import OpenK.AllK
import Wide.FinOn
import HandS.ForMost
import HandS.IsInst
import HandS.Wide
import HandS.Steps
import HandS.Style
import HandS.TupAny
import HandS.Codes
import HandS.SortInts
import HandS.TryOnly
import HandS.Set
import HandS.SetFor
import HandS.Strs
import HandS.SortOrd
import PySem.Challenge.RW_resttricks_k05_whole_tricks
set_option Elab.async false
set_option linter.all false
set_option maxRecDepth 100000
set_option maxHeartbeats 4000000
/-! ## the layer: what is owned, step by step -/
namespace R
open PySem PySem.Spec PyProof.Rows L2
open PySem.W (Frag)

def del1 (H : Hp) (a : Addr) : Hp := fun b => if b = a then none else H b
/-- B: what stays; Lw: what this frame may change, as it stands -/
structure Own (B : Hp) (Lw : List (Addr × HO)) (H : Hp) : Prop where
  st : ∀ a o, B a = some o → H a = some o
  ow : ∀ p ∈ Lw, H p.1 = some p.2
  no : ∀ p ∈ Lw, B p.1 = none
  nd : (Lw.map (·.1)).Nodup
theorem Own.refl (H : Hp) : Own H [] H := ⟨fun _ _ h => h, fun _ h => by simp at h, fun _ h => by simp at h, by simp⟩
theorem Own.refl1 {H : Hp} {a : Addr} {o : HO} (h : H a = some o) : Own (del1 H a) [(a, o)] H := by
  refine ⟨fun b u e => ?_, fun p hp => ?_, fun p hp => ?_, by simp⟩
  · unfold del1 at e
    split at e
    · cases e
    · exact e
  · have e : p = (a, o) := by simpa using hp
    rw [e]; exact h
  · have e : p = (a, o) := by simpa using hp
    rw [e]; unfold del1; rw [if_pos rfl]
section
variable {B H H' : Hp} {Lw : List (Addr × HO)} {a b p : Addr} {o u : HO} {K : Frag} {xs : List V}
theorem Own.get (O : Own B Lw H) (i : Nat) (h : Lw[i]? = some (a, o)) : H a = some o := O.ow (a, o) (List.mem_of_getElem? h)
theorem Own.gone (O : Own B Lw H) (i : Nat) (h : Lw[i]? = some (a, o)) : B a = none := O.no (a, o) (List.mem_of_getElem? h)
theorem Own.seq (O : Own B Lw H) (h : SqL K B a xs) : SqL K H a xs := by
  rcases h with (h | ⟨q, h⟩) | h
  · exact .inl (.inl (O.st _ _ h))
  · exact .inl (.inr ⟨q, O.st _ _ h⟩)
  · exact .inr h
theorem Own.tup (O : Own B Lw H) (h : SqT K B a xs) : SqT K H a xs := by
  rcases h with (h | ⟨q, h⟩) | h
  · exact .inl (.inl (O.st _ _ h))
  · exact .inl (.inr ⟨q, O.st _ _ h⟩)
  · exact .inr h
theorem Own.sq (O : Own B Lw H) (i : Nat) (h : Lw[i]? = some (a, .lst xs)) : SqL K H a xs := SqL.of (O.get i h)
theorem Own.tq (O : Own B Lw H) (i : Nat) (h : Lw[i]? = some (a, .tup xs)) : SqT K H a xs := SqT.of (O.get i h)
theorem Own.free (O : Own B Lw H) (h : H p = none) : B p = none := by
  cases q : B p with
  | none => rfl
  | some v => rw [O.st _ _ q] at h; cases h
theorem Own.out (O : Own B Lw H) (h : H p = none) : ∀ q ∈ Lw, q.1 ≠ p := fun q hq z => by
  have e := O.ow q hq
  rw [z, h] at e; cases e
/-- a new object -/
theorem Own.new (O : Own B Lw H) (h : H p = none) : Own B ((p, o) :: Lw) (upd H p o) := by
  refine ⟨fun c v e => ?_, fun q hq => ?_, fun q hq => ?_, ?_⟩
  · rw [upd_ne (ne_of_none (O.st _ _ e) h)]; exact O.st _ _ e
  · rcases List.mem_cons.mp hq with rfl | hq
    · exact upd_same
    · show upd H p o q.1 = _
      rw [upd_ne (O.out h q hq)]; exact O.ow q hq
  · rcases List.mem_cons.mp hq with rfl | hq
    · exact O.free h
    · exact O.no q hq
  · rw [List.map_cons, List.nodup_cons]
    refine ⟨fun z => ?_, O.nd⟩
    obtain ⟨q, hq, e⟩ := List.mem_map.mp z
    exact O.out h q hq e
theorem set_map1 : ∀ {Lw : List (Addr × HO)} {i : Nat} {a : Addr} {o o' : HO}, Lw[i]? = some (a, o) → (Lw.set i (a, o')).map (·.1) = Lw.map (·.1)
  | [], _, _, _, _, h => by simp at h
  | x :: r, 0, a, o, o', h => by
    have e : x = (a, o) := by simpa using h
    rw [e]; rfl
  | x :: r, i + 1, a, o, o', h => by
    have ih := set_map1 (Lw := r) (i := i) (o' := o') (by simpa using h)
    show x.1 :: (r.set i (a, o')).map (·.1) = x.1 :: r.map (·.1)
    rw [ih]
theorem mem_set1 : ∀ {Lw : List (Addr × HO)} {i : Nat} {a : Addr} {o o' : HO} {q : Addr × HO}, (Lw.map (·.1)).Nodup → Lw[i]? = some (a, o) → q ∈ Lw.set i (a, o') → q = (a, o') ∨ (q ∈ Lw ∧ q.1 ≠ a)
  | [], _, _, _, _, _, _, h, _ => by simp at h
  | x :: r, 0, a, o, o', q, nd, h, hq => by
    have e : x = (a, o) := by simpa using h
    subst e
    rw [List.map_cons, List.nodup_cons] at nd
    rcases List.mem_cons.mp hq with rfl | hq
    · exact .inl rfl
    · exact .inr ⟨List.mem_cons_of_mem _ hq, fun z => nd.1 (List.mem_map.mpr ⟨q, hq, z⟩)⟩
  | x :: r, i + 1, a, o, o', q, nd, h, hq => by
    rw [List.map_cons, List.nodup_cons] at nd
    have h' : r[i]? = some (a, o) := by simpa using h
    rcases List.mem_cons.mp (show q ∈ x :: r.set i (a, o') from hq) with rfl | hq
    · refine .inr ⟨List.mem_cons_self, fun z => nd.1 (List.mem_map.mpr ⟨(a, o), List.mem_of_getElem? h', z.symm⟩)⟩
    · rcases mem_set1 nd.2 h' hq with z | ⟨z1, z2⟩
      · exact .inl z
      · exact .inr ⟨List.mem_cons_of_mem _ z1, z2⟩
/-- what is owned is changed by someone who keeps all else -/
theorem Own.but (O : Own B Lw H) (i : Nat) (h : Lw[i]? = some (a, o)) (k : ∀ b v, b ≠ a → H b = some v → H' b = some v) (ha : H' a = some u) : Own B (Lw.set i (a, u)) H' := by
  have hB := O.gone i h
  refine ⟨fun c v e => k c v (fun z => ?_) (O.st _ _ e), fun q hq => ?_, fun q hq => ?_, ?_⟩
  · rw [z, hB] at e; cases e
  · rcases mem_set1 O.nd h hq with rfl | ⟨h1, h2⟩
    · exact ha
    · exact k _ _ h2 (O.ow q h1)
  · rcases mem_set1 O.nd h hq with rfl | ⟨h1, h2⟩
    · exact hB
    · exact O.no q h1
  · rw [set_map1 h]; exact O.nd
theorem Own.put (O : Own B Lw H) (i : Nat) (h : Lw[i]? = some (a, o)) : Own B (Lw.set i (a, u)) (upd H a u) :=
  O.but i h (fun b v hb e => by rw [upd_ne hb]; exact e) upd_same
/-- more stands now -/
theorem Own.same (O : Own B Lw H) (s : Same H H') : Own B Lw H' := ⟨fun c v e => s _ _ (O.st _ _ e), fun q hq => s _ _ (O.ow q hq), O.no, O.nd⟩
theorem Own.tail {x : Addr × HO} (O : Own B (x :: Lw) H) : Own B Lw H := ⟨O.st, fun q hq => O.ow q (List.mem_cons_of_mem _ hq), fun q hq => O.no q (List.mem_cons_of_mem _ hq), (List.nodup_cons.mp (by simpa using O.nd)).2⟩
theorem Own.tail2 {x y : Addr × HO} (O : Own B (y :: x :: Lw) H) : Own B (y :: Lw) H := by
  have hn := O.nd
  simp only [List.map_cons, List.nodup_cons, List.mem_cons, not_or] at hn
  refine ⟨O.st, fun q hq => O.ow q ?_, fun q hq => O.no q ?_, ?_⟩
  · rcases List.mem_cons.mp hq with rfl | hq
    · exact List.mem_cons_self
    · exact List.mem_cons_of_mem _ (List.mem_cons_of_mem _ hq)
  · rcases List.mem_cons.mp hq with rfl | hq
    · exact List.mem_cons_self
    · exact List.mem_cons_of_mem _ (List.mem_cons_of_mem _ hq)
  · simp only [List.map_cons, List.nodup_cons]
    exact ⟨hn.1.2, hn.2.2⟩
theorem Own.toSame (O : Own H Lw H') : Same H H' := O.st
/-- at the end: all but a is as it was -/
theorem Own.toBut (O : Own (del1 H a) Lw H') : ∀ b v, b ≠ a → H b = some v → H' b = some v := fun b v hb e => O.st b v (by unfold del1; rw [if_neg hb]; exact e)
theorem del1_seq {o : HO} (h : SqL K H b xs) (ha : H a = some o) (ho : ∀ ys, o ≠ .lst ys ∨ b ≠ a) (hf : ∀ q w, o ≠ .frz q w) (hb : b ≠ a) : SqL K (del1 H a) b xs := by
  rcases h with (h | ⟨q, h⟩) | h
  · exact .inl (.inl (by unfold del1; rw [if_neg hb]; exact h))
  · exact .inl (.inr ⟨q, by unfold del1; rw [if_neg hb]; exact h⟩)
  · exact .inr h
theorem del1_ne {H : Hp} {a b : Addr} (h : b ≠ a) : del1 H a b = H b := by unfold del1; rw [if_neg h]
end
end R
namespace R
open PySem L2
theorem Own.swap {B H : Hp} {Lw : List (Addr × HO)} {x y : Addr × HO} (O : Own B (x :: y :: Lw) H) : Own B (y :: x :: Lw) H := by
  refine ⟨O.st, fun q hq => O.ow q ?_, fun q hq => O.no q ?_, ?_⟩
  · simp only [List.mem_cons] at hq ⊢
    rcases hq with z | z | z
    · exact .inr (.inl z)
    · exact .inl z
    · exact .inr (.inr z)
  · simp only [List.mem_cons] at hq ⊢
    rcases hq with z | z | z
    · exact .inr (.inl z)
    · exact .inl z
    · exact .inr (.inr z)
  · have h := O.nd
    simp only [List.map_cons, List.nodup_cons, List.mem_cons, not_or] at h ⊢
    exact ⟨⟨fun z => h.1.1 z.symm, h.2.1⟩, h.1.2, h.2.2⟩
end R
namespace R
open PySem L2
open PySem.W (Frag)
section
variable {B H H' : Hp} {Lw : List (Addr × HO)} {p : Addr} {o : HO} {K : Frag}
/-- what is owned is let stand for good -/
theorem Own.fix (O : Own B ((p, o) :: Lw) H) : Own (upd B p o) Lw H := by
  have hn := O.nd
  simp only [List.map_cons, List.nodup_cons] at hn
  refine ⟨fun a v e => ?_, fun q hq => O.ow q (List.mem_cons_of_mem _ hq), fun q hq => ?_, hn.2⟩
  · by_cases h : a = p
    · subst h
      rw [upd_same] at e
      rw [← e]
      exact O.ow (a, o) List.mem_cons_self
    · rw [upd_ne h] at e; exact O.st _ _ e
  · have ne : q.1 ≠ p := fun z => hn.1 (List.mem_map.mpr ⟨q, hq, z⟩)
    rw [upd_ne ne]; exact O.no q (List.mem_cons_of_mem _ hq)
theorem Own.fixS (O : Own B ((p, o) :: Lw) H) : Same B (upd B p o) := fun b v e => by
  have h : B p = none := O.no (p, o) List.mem_cons_self
  rw [upd_ne (ne_of_none e h)]; exact e
theorem Own.sub {B' : Hp} (O : Own B' Lw H) (s : Same B B') : Own B Lw H := ⟨fun a v e => O.st _ _ (s _ _ e), O.ow, fun q hq => s.free (O.no q hq), O.nd⟩
end
mutual
theorem dp_same {K : Frag} {H H' : Hp} (s : Same H H') : ∀ (d : PyData) (v : V), Dp K H v d → Dp K H' v d
  | .none, _, h => by cases h; exact .non
  | .bool b, _, h => by cases h; exact .bl b
  | .int i, _, h => by cases h; exact .int i
  | .str x, _, h => by cases h; exact .str x
  | .list ds, _, h => by
    cases h with
    | lst h1 h2 => exact .lst (s.seq h1) (dpAll_same s ds _ h2)
  | .tuple ds, _, h => by
    cases h with
    | tup h1 h2 =>
      refine .tup ?_ (dpAll_same s ds _ h2)
      rcases h1 with (h | ⟨q, h⟩) | h
      · exact .inl (.inl (s _ _ h))
      · exact .inl (.inr ⟨q, s _ _ h⟩)
      · exact .inr h
  | .dict _, _, h => by cases h
theorem dpAll_same {K : Frag} {H H' : Hp} (s : Same H H') : ∀ (ds : List PyData) (vs : List V), DpAll K H vs ds → DpAll K H' vs ds
  | [], _, h => by cases h; exact .nil
  | d :: ds, _, h => by
    cases h with
    | cons h1 h2 => exact .cons (dp_same s d _ h1) (dpAll_same s ds _ h2)
end
end R
namespace R
open PySem L2
theorem Own.got {B H H' : Hp} {Lw : List (Addr × HO)} {p : Addr} {o : HO} (O : Own B Lw H) (s : Same H H') (h : H p = none) (h' : H' p = some o) : Own B ((p, o) :: Lw) H' := by
  have O1 := O.same s
  refine ⟨O1.st, fun q hq => ?_, fun q hq => ?_, ?_⟩
  · rcases List.mem_cons.mp hq with rfl | hq
    · exact h'
    · exact O1.ow q hq
  · rcases List.mem_cons.mp hq with rfl | hq
    · exact O.free h
    · exact O1.no q hq
  · rw [List.map_cons, List.nodup_cons]
    refine ⟨fun z => ?_, O.nd⟩
    obtain ⟨q, hq, e⟩ := List.mem_map.mp z
    exact O.out h q hq e
end R
namespace R
open PySem L2
theorem Own.butNew {B H H' : Hp} {Lw : List (Addr × HO)} {a p : Addr} {o u v : HO} (O : Own B Lw H) (i : Nat) (h : Lw[i]? = some (a, o)) (k : ∀ b v, b ≠ a → H b = some v → H' b = some v) (ha : H' a = some u) (hp : H p = none) (hv : H' p = some v) : Own B ((p, v) :: Lw.set i (a, u)) H' := by
  have O1 := O.but i h k ha
  refine ⟨O1.st, fun q hq => ?_, fun q hq => ?_, ?_⟩
  · rcases List.mem_cons.mp hq with rfl | hq
    · exact hv
    · exact O1.ow q hq
  · rcases List.mem_cons.mp hq with rfl | hq
    · exact O.free hp
    · exact O1.no q hq
  · rw [List.map_cons, List.nodup_cons]
    refine ⟨fun z => ?_, O1.nd⟩
    rw [set_map1 h] at z
    obtain ⟨q, hq, e⟩ := List.mem_map.mp z
    exact O.out hp q hq e
/-- what is new to the owner was new ahead of its changes -/
theorem Own.was {H H0 : Hp} {Lw : List (Addr × HO)} {a p : Addr} {o : HO} (O : Own (del1 H0 a) Lw H) (ha : H0 a = some o) (hl : ∃ (i : Nat) (u : HO), Lw[i]? = some (a, u)) (hp : H p = none) : H0 p = none := by
  cases e : H0 p with
  | none => rfl
  | some w =>
    by_cases z : p = a
    · obtain ⟨i, u, h⟩ := hl
      have q := O.get i h
      rw [← z, hp] at q
      cases q
    · have q := O.st p w (by unfold del1; rw [if_neg z]; exact e)
      rw [hp] at q
      cases q
end R
namespace R
open PySem L2
theorem Own.less {B H : Hp} {Lw Lw' : List (Addr × HO)} (O : Own B Lw H) (s : Lw'.Sublist Lw) : Own B Lw' H :=
  ⟨O.st, fun q hq => O.ow q (s.subset hq), fun q hq => O.no q (s.subset hq), O.nd.sublist (s.map _)⟩
theorem Own.drop {B H : Hp} {Lw : List (Addr × HO)} (O : Own B Lw H) (n : Nat) : Own B (Lw.drop n) H := O.less (List.drop_sublist n Lw)
end R

namespace R
open PySem PySem.Spec PyProof.Rows L2
open PySem.W (Frag)
/-! ### rules of our own -/
theorem op_mulX {X : Cx} : OpR X (binaryOp .Mult) (rI IntMulOk fun i j => .int (i * j)) := opI fun _ _ _ _ _ _ _ hc q => mul_int q hc
theorem mx_l {i j : Int} (h1 : -(2 ^ 64) < i) (h2 : i < 2 ^ 64) : IntMulOk i j := CMul.ok (.inl ⟨h1, h2⟩)
theorem mx_r {i j : Int} (h1 : -(2 ^ 64) < j) (h2 : j < 2 ^ 64) : IntMulOk i j := CMul.ok (.inr ⟨h1, h2⟩)
theorem pe_globI {X : Cx} {x : Str} {i : Int} {pos : Pos} (hg : Gl X x) (hm : ∃ t, X.mg x = some (.int i t)) (hd : (x == ("__debug__" : Str)) = false := by decide) : PE X (.Name x pos) (tC (.int i)) := by
  obtain ⟨t, h⟩ := hm
  exact pe_glob hg h ⟨t, rfl⟩ hd
/-- len, tuple(..), list(..) of a list or tuple -/
def rLen (K : Frag) : List V → Hp → VK → Prop := fun xs H Q => ∃ p ys, xs = [.ref p] ∧ (SqL K H p ys ∨ SqT K H p ys) ∧ Q (.int ys.length) H
theorem call_lenR {X : Cx} : CallR X (.builtin "len") (rLen X.K) := call_len_seq
def rAbs : List V → Hp → VK → Prop := fun xs H Q => ∃ i, xs = [.int i] ∧ Q (.int (if i < 0 then -i else i)) H
theorem call_absR {X : Cx} : CallR X (.builtin "abs") rAbs := call_abs
def rTupOf (K : Frag) : List V → Hp → VK → Prop := fun xs H Q => ∃ p ys, xs = [.ref p] ∧ ((SqL K H p ys ∧ ∀ l, H l = none → Q (.ref l) (upd H l (.tup ys))) ∨ (SqT K H p ys ∧ Q (.ref p) H))
theorem call_tupR {X : Cx} : CallR X (.type "tuple") (rTupOf X.K) := call_tuple_of
def rLstOf (K : Frag) : List V → Hp → VK → Prop := fun xs H Q => ∃ p ys, xs = [.ref p] ∧ (SqL K H p ys ∨ SqT K H p ys) ∧ ∀ l, H l = none → Q (.ref l) (upd H l (.lst ys))
theorem call_lstR {X : Cx} : CallR X (.type "list") (rLstOf X.K) := call_list_of
/-! ### the steps -/
/-- a new list, a new tuple -/
def NewL (xs : List V) (H : Hp) (Q : VK) : Prop := xs.length ≤ sizeLine ∧ ∀ p, H p = none → Q (.ref p) (upd H p (.lst xs))
def NewT (xs : List V) (H : Hp) (Q : VK) : Prop := xs.length ≤ sizeLine ∧ ∀ p, H p = none → Q (.ref p) (upd H p (.tup xs))
section
variable {t u : TS} {D : Ends} {σ : L2.St} {H : Hp} {te ta tb tc : TE} {g : TG} {c d : TT} {Q : VK} {v x y : V} {i : Nat} {r r' : R2} {QB : Bool → Hp → Prop} {QL : List V → Hp → Prop} {K : Frag} {tr : TA} {tl th : TO}
theorem a_seq (h : t { D with nx := u D } σ H) : tSeq t u D σ H := h
theorem a_next (h : D.nx σ H) : tNext D σ H := h
theorem a_asg (h : te σ H fun x H1 => g x σ H1 D.nx) : tAsg te g D σ H := h
theorem a_gname {Qs : L2.St → Hp → Prop} (h : Qs (σ.set i (some v)) H) : gName i v σ H Qs := h
theorem a_drop (h : te σ H fun _ H1 => D.nx σ H1) : tDrop te D σ H := h
theorem a_ret (h : te σ H D.rt) : tRet te D σ H := h
theorem a_retN (h : D.rt .non H) : tRetN D σ H := h
theorem a_if (h : c σ H fun b H1 => if b = true then t D σ H1 else u D σ H1) : tIfS c t u D σ H := h
theorem a_var (e : σ[i]? = some (some v)) (h : Q v H) : tVar i σ H Q := ⟨v, e, h⟩
theorem a_c (h : Q v H) : tC v σ H Q := h
theorem a_op (h : ta σ H fun x H1 => tb σ H1 fun y H2 => r x y H2 Q) : tOp r ta tb σ H Q := h
theorem a_un {f : V → Hp → VK → Prop} (h : ta σ H fun x H1 => f x H1 Q) : tUn f ta σ H Q := h
theorem a_neg {n : Int} (h : Q (.int (-n)) H) : rU (fun i => .int (-i)) (.int n) H Q := ⟨n, rfl, h⟩
theorem a_test (h : te σ H fun x H' => ∃ k, x = .bl k ∧ QB k H') : tTest te σ H QB := h
theorem a_tB (h : te σ H fun x H' => ∃ k, x = .bl k ∧ QB k H') : tB te σ H QB := h
theorem a_bk {b : Bool} (h : QB b H) : ∃ k, V.bl b = .bl k ∧ QB k H := ⟨b, rfl, h⟩
theorem a_and (h : c σ H fun b H1 => if b = true then d σ H1 QB else QB false H1) : tAnd c d σ H QB := h
theorem a_or (h : c σ H fun b H1 => if b = true then QB true H1 else d σ H1 QB) : tOr c d σ H QB := h
theorem a_not (h : c σ H fun b H1 => QB (!b) H1) : tNot c σ H QB := h
theorem a_andV (h : ta σ H fun x H1 => ∃ b, x = .bl b ∧ if b = true then tb σ H1 Q else Q (.bl false) H1) : tAndV ta tb σ H Q := h
theorem a_orV (h : ta σ H fun x H1 => ∃ b, x = .bl b ∧ if b = true then Q (.bl true) H1 else tb σ H1 Q) : tOrV ta tb σ H Q := h
theorem a_notV (h : ta σ H fun x H1 => ∃ b, x = .bl b ∧ Q (.bl (!b)) H1) : tNotV ta σ H Q := h
theorem a_bv {b : Bool} {A : Bool → Prop} (h : A b) : ∃ k, V.bl b = .bl k ∧ A k := ⟨b, rfl, h⟩
theorem a_ifE (h : c σ H fun b H1 => if b = true then ta σ H1 Q else tb σ H1 Q) : tIf c ta tb σ H Q := h
theorem a_nil (h : QL [] H) : tNil σ H QL := h
theorem a_cons (h : te σ H fun x H1 => tr σ H1 fun xs H2 => QL (x :: xs) H2) : tCons te tr σ H QL := h
theorem a_tup (h : tr σ H fun xs H1 => NewT xs H1 Q) : tTup tr σ H Q := h
theorem a_lst (h : tr σ H fun xs H1 => NewL xs H1 Q) : tLst tr σ H Q := h
theorem a_cb {f : List V → Hp → VK → Prop} (h : tr σ H fun vs H1 => f vs H1 Q) : tCB f tr σ H Q := h
theorem a_call {sp : Sp} {dvs : List V} {E : XK} (h : tr σ H fun vs H1 => sp (vs ++ dvs) H1 Q E) : tCall sp dvs E tr σ H Q := h
theorem a_chain (h : ta σ H fun x H1 => tb σ H1 fun y H2 => r x y H2 fun z H3 => ∃ k, z = .bl k ∧ (if k = true then tc σ H3 fun w' H4 => r' y w' H4 Q else Q (.bl false) H3)) : tChain r r' ta tb tc σ H Q := h
theorem a_sl {f : V → Option Int → Option Int → Hp → VK → Prop} (h : te σ H fun x H1 => tl σ H1 fun l H2 => th σ H2 fun u H3 => f x l u H3 Q) : tSl f te tl th σ H Q := h
theorem a_npart {Qo : Option Int → Hp → Prop} (h : Qo none H) : tNoPart σ H Qo := h
theorem a_part {Qo : Option Int → Hp → Prop} (h : te σ H fun x H1 => ∃ i, x = .int i ∧ Qo (some i) H1) : tPart te σ H Qo := h
theorem a_ik {n : Int} {A : Int → Prop} (h : A n) : ∃ i, V.int n = .int i ∧ A i := ⟨n, rfl, h⟩
theorem a_gsub {to ti : TE} {ts : TSet} {Qs : L2.St → Hp → Prop} (h : to σ H fun o H1 => ti σ H1 fun i H2 => ts o i v H2 fun H3 => Qs σ H3) : gSub to ti ts v σ H Qs := h
theorem a_bm {T : String} {f : V → List V → Hp → VK → Prop} {to : TE} (h : to σ H fun x H1 => tyV K T x H1 ∧ tr σ H1 fun xs H2 => f x xs H2 Q) : tBM K T f to tr σ H Q := h
theorem a_bm0 {T : String} {f : V → List V → Hp → VK → Prop} {to : TE} (h : to σ H fun x H1 => tyV K T x H1 ∧ f x [] H1 Q) : tBM0 K T f to σ H Q := h
theorem a_par {a b : Nat} (h : tr σ H fun vs H1 => ∃ v w, vs = [v, w] ∧ D.nx ((σ.set a (some v)).set b (some w)) H1) : tPar a b tr D σ H := h
theorem a_par2 {A : V → V → Prop} (h : A x y) : ∃ v w, [x, y] = [v, w] ∧ A v w := ⟨x, y, rfl, h⟩
theorem a_for {wi : TI} (h : wi σ H fun J H1 => ∃ W : Nat → Nat → L2.St → Hp → Prop, (∃ m, W 0 m σ H1) ∧ ∀ i m σ H, W i m σ H →
  (J.stop i H ∧ D.nx σ H) ∨ (J.go i H ∧ ∃ N : L2.St → Hp → Prop, (∀ σ' H', N σ' H' → ∃ m', m' < m ∧ W (i + 1) m' σ' H') ∧ ∀ x H', J.yld i H x H' → g x σ H' fun σ2 H2 => t { D with nx := N, ct := N, bk := D.nx } σ2 H2)) : tFor wi g t D σ H := h
theorem a_rng1 {RR : It → Hp → Prop} (h : tr σ H fun vs H1 => ∃ j : Int, vs = [.int j] ∧ -(2 ^ 62) ≤ j ∧ j < 2 ^ 62 ∧ RR (Itr 0 j.toNat) H1) : iRng1 tr σ H RR := h
theorem a_rng1' {j : Int} {A : Int → Prop} (h1 : -(2 ^ 62) ≤ j) (h2 : j < 2 ^ 62) (h : A j) : ∃ k : Int, [V.int j] = [.int k] ∧ -(2 ^ 62) ≤ k ∧ k < 2 ^ 62 ∧ A k := ⟨j, rfl, h1, h2, h⟩
theorem a_rng2 {RR : It → Hp → Prop} (h : tr σ H fun vs H1 => ∃ i j : Int, vs = [.int i, .int j] ∧ (-(2 ^ 62) ≤ i ∧ i < 2 ^ 62 ∧ -(2 ^ 62) ≤ j ∧ j < 2 ^ 62) ∧ RR (Itr i (j - i).toNat) H1) : iRng2 tr σ H RR := h
theorem a_rng2' {i j : Int} {A : Int → Int → Prop} (h1 : -(2 ^ 62) ≤ i ∧ i < 2 ^ 62 ∧ -(2 ^ 62) ≤ j ∧ j < 2 ^ 62) (h : A i j) : ∃ a b : Int, [V.int i, V.int j] = [.int a, .int b] ∧ (-(2 ^ 62) ≤ a ∧ a < 2 ^ 62 ∧ -(2 ^ 62) ≤ b ∧ b < 2 ^ 62) ∧ A a b := ⟨i, j, rfl, h1, h⟩
theorem a_lc {wi : TI} {tt : TT} {vs : List Nat} (h : wi σ H fun J H1 => ∀ D, H1 D = none → ∃ W : Nat → Nat → Hp → Prop, (∃ m, W 0 m (upd H1 D (.lst []))) ∧ ∀ i m H, W i m H →
  (J.stop i H ∧ Q (.ref D) H) ∨ (J.go i H ∧ ∃ Nx : Hp → Prop, (∀ H', Nx H' → ∃ m', m' < m ∧ W (i + 1) m' H') ∧ ∀ x H', J.yld i H x H' → g x (wipe σ vs) H' fun σ2 H2 => wipe σ2 vs = wipe σ vs ∧ tt σ2 H2 fun b H3 =>
    if b = true then te σ2 H3 fun y H4 => ∃ acc, H4 D = some (.lst acc) ∧ acc.length < sizeLine ∧ Nx (upd H4 D (.lst (acc ++ [y]))) else Nx H3)) : tLc wi g tt te vs σ H Q := h
theorem a_gtup {n : Nat} {gs : TGs} {p : Addr} {xs : List V} {Qs : L2.St → Hp → Prop} (hs : SqT K H p xs) (hl : xs.length = n) (h : gs xs σ H Qs) : gTup K n gs (.ref p) σ H Qs := ⟨p, xs, rfl, hs, hl, h⟩
theorem a_gcons {gs : TGs} {vs : List V} {Qs : L2.St → Hp → Prop} (h : g v σ H fun σ' H' => gs vs σ' H' Qs) : gCons g gs (v :: vs) σ H Qs := ⟨v, vs, rfl, h⟩
theorem a_gnil {Qs : L2.St → Hp → Prop} (h : Qs σ H) : gNil [] σ H Qs := ⟨rfl, h⟩
theorem a_yes (h : QB true H) : tYes σ H QB := h
-- by values
theorem a_I0 {f : Int → Int → V} {m n : Int} (h : Q (f m n) H) : rI0 f (.int m) (.int n) H Q := ⟨m, n, rfl, rfl, h⟩
theorem a_I {C : Int → Int → Prop} {f : Int → Int → V} {m n : Int} (hc : C m n) (h : Q (f m n) H) : rI C f (.int m) (.int n) H Q := ⟨m, n, rfl, rfl, hc, h⟩
theorem a_eqI {m n : Int} (h : Q (.bl (decide (m = n))) H) : rEq (.int m) (.int n) H Q := ⟨rfl, by
  have e : decide (V.int m = V.int n) = decide (m = n) := by rw [dec_int, Bool.beq_eq_decide_eq]
  rw [e]; exact h⟩
theorem a_neI {m n : Int} (h : Q (.bl (!decide (m = n))) H) : rNe (.int m) (.int n) H Q := ⟨rfl, by
  have e : decide (V.int m = V.int n) = decide (m = n) := by rw [dec_int, Bool.beq_eq_decide_eq]
  rw [e]; exact h⟩
theorem a_isN1 (h : Q (.bl true) H) : rIsN .non .non H Q := ⟨rfl, h⟩
theorem a_isN0 (hx : x ≠ .non) (h : Q (.bl false) H) : rIsN x .non H Q := ⟨rfl, by rw [decide_eq_false hx]; exact h⟩
theorem a_notN1 (h : Q (.bl false) H) : rNotN .non .non H Q := ⟨rfl, h⟩
theorem a_notN0 (hx : x ≠ .non) (h : Q (.bl true) H) : rNotN x .non H Q := ⟨rfl, by rw [decide_eq_false hx]; exact h⟩
theorem a_ixL {p : Addr} {xs : List V} {n : Int} (hs : SqL K H p xs) (ha : atI xs n = some v) (h : Q v H) : rIxL K (.ref p) (.int n) H Q := ⟨p, xs, n, v, rfl, rfl, hs, ha, h⟩
theorem a_ixT {p : Addr} {xs : List V} {n : Int} (hs : SqT K H p xs) (ha : atI xs n = some v) (h : Q v H) : rIxT K (.ref p) (.int n) H Q := ⟨p, xs, n, v, rfl, rfl, hs, ha, h⟩
theorem a_setL {B : Hp} {Lw : List (Addr × HO)} {p : Addr} {xs : List V} {n : Int} {j : Nat} {Qh : Hp → Prop} (O : Own B Lw H) (i : Nat) (h : Lw[i]? = some (p, .lst xs)) (hj : ixN xs.length n = some j)
    (q : ∀ H', Own B (Lw.set i (p, .lst (xs.set j v))) H' → Qh H') : rSetL (.ref p) (.int n) v H Qh := ⟨p, xs, n, j, rfl, rfl, O.get i h, hj, q _ (O.put i h)⟩
theorem a_app {B : Hp} {Lw : List (Addr × HO)} {p : Addr} {xs : List V} (O : Own B Lw H) (i : Nat) (h : Lw[i]? = some (p, .lst xs)) (hl : xs.length ≤ 1000000)
    (q : ∀ H', Own B (Lw.set i (p, .lst (xs ++ [y]))) H' → Q .non H') : rAppend (.ref p) [y] H Q := ⟨p, xs, y, rfl, rfl, O.get i h, Nat.lt_of_le_of_lt hl (by decide), q _ (O.put i h)⟩
theorem a_mkL {B : Hp} {Lw : List (Addr × HO)} {xs : List V} (O : Own B Lw H) (hl : xs.length ≤ 1000000) (q : ∀ p H', H p = none → Own B ((p, .lst xs) :: Lw) H' → Q (.ref p) H') : NewL xs H Q :=
  ⟨Nat.le_trans hl (by decide), fun p hp => q p _ hp (O.new hp)⟩
theorem a_mkT {B : Hp} {Lw : List (Addr × HO)} {xs : List V} (O : Own B Lw H) (hl : xs.length ≤ 1000000) (q : ∀ p H', H p = none → Own B ((p, .tup xs) :: Lw) H' → Q (.ref p) H') : NewT xs H Q :=
  ⟨Nat.le_trans hl (by decide), fun p hp => q p _ hp (O.new hp)⟩
theorem a_int1 {n : Int} {A : Int → Prop} {C : Prop} (h : A n) : (∃ i, [V.int n] = [V.int i] ∧ A i) ∨ C := .inl ⟨n, rfl, h⟩
theorem a_len {q : Addr} {ys : List V} (hs : SqL K H q ys ∨ SqT K H q ys) (h : Q (.int ys.length) H) : rLen K [V.ref q] H Q := ⟨q, ys, rfl, hs, h⟩
theorem a_sum {a : Addr} {ns : List Int} (hs : SqL K H a (ns.map V.int)) (h : Q (.int ns.sum) H) : rSum K [V.ref a] H Q := ⟨a, ns, rfl, hs, h⟩
theorem a_tupL {B : Hp} {Lw : List (Addr × HO)} {a : Addr} {xs : List V} (O : Own B Lw H) (hs : SqL K H a xs) (h : ∀ p H', H p = none → Own B ((p, .tup xs) :: Lw) H' → Q (.ref p) H') : rTupOf K [V.ref a] H Q := ⟨a, xs, rfl, .inl ⟨hs, fun l hl => h l _ hl (O.new hl)⟩⟩
theorem a_tupT {a : Addr} {xs : List V} (hs : SqT K H a xs) (h : Q (.ref a) H) : rTupOf K [V.ref a] H Q := ⟨a, xs, rfl, .inr ⟨hs, h⟩⟩
theorem a_lstO {B : Hp} {Lw : List (Addr × HO)} {a : Addr} {xs : List V} (O : Own B Lw H) (hs : SqL K H a xs ∨ SqT K H a xs) (h : ∀ p H', H p = none → Own B ((p, .lst xs) :: Lw) H' → Q (.ref p) H') : rLstOf K [V.ref a] H Q := ⟨a, xs, rfl, hs, fun l hl => h l _ hl (O.new hl)⟩
theorem a_pow {m n : Int} {k : Nat} (hn : n = (k : Int)) (hk : k ≤ 1000000) (hm : m.natAbs < 2 ^ 64) (h : Q (.int (m ^ k)) H) : rI CPow (fun i j => .int (i ^ j.toNat)) (.int m) (.int n) H Q := by
  subst hn
  exact ⟨m, k, rfl, rfl, ⟨by omega, by omega, hm⟩, h⟩
theorem a_abs {n : Int} (h : Q (.int (n.natAbs : Int)) H) : rAbs [V.int n] H Q := ⟨n, rfl, by
  have e : (if n < 0 then -n else n) = (n.natAbs : Int) := by split <;> omega
  rw [e]; exact h⟩
-- tests
theorem a_tt {A B : Prop} (h : A) : if true = true then A else B := by rw [if_pos rfl]; exact h
theorem a_ff {A B : Prop} (h : B) : if false = true then A else B := by rw [if_neg Bool.false_ne_true]; exact h
theorem a_nt {A B : Prop} (h : B) : if (!true) = true then A else B := a_ff h
theorem a_nf {A B : Prop} (h : A) : if (!false) = true then A else B := a_tt h
theorem a_itT {p A B : Prop} [Decidable p] (hp : p) (h : A) : if decide p = true then A else B := by rw [if_pos (decide_eq_true hp)]; exact h
theorem a_itF {p A B : Prop} [Decidable p] (hp : ¬ p) (h : B) : if decide p = true then A else B := by rw [if_neg (by rw [decide_eq_false hp]; decide)]; exact h
theorem a_it2 {p A B : Prop} [Decidable p] (h1 : p → A) (h2 : ¬ p → B) : if decide p = true then A else B := by
  by_cases hp : p
  · exact a_itT hp (h1 hp)
  · exact a_itF hp (h2 hp)
theorem a_niT {p A B : Prop} [Decidable p] (hp : p) (h : B) : if (!decide p) = true then A else B := by rw [decide_eq_true hp]; exact a_nt h
theorem a_niF {p A B : Prop} [Decidable p] (hp : ¬ p) (h : A) : if (!decide p) = true then A else B := by rw [decide_eq_false hp]; exact a_nf h
theorem a_ni2 {p A B : Prop} [Decidable p] (h1 : p → B) (h2 : ¬ p → A) : if (!decide p) = true then A else B := by
  by_cases hp : p
  · exact a_niT hp (h1 hp)
  · exact a_niF hp (h2 hp)
theorem a_itB {b : Bool} {A B : Prop} (h1 : b = true → A) (h2 : b = false → B) : if b = true then A else B := by
  cases b with
  | true => exact a_tt (h1 rfl)
  | false => exact a_ff (h2 rfl)
theorem a_niB {b : Bool} {A B : Prop} (h1 : b = true → B) (h2 : b = false → A) : if (!b) = true then A else B := by
  cases b with
  | true => exact a_nt (h1 rfl)
  | false => exact a_nf (h2 rfl)
theorem a_cT {p q A B : Prop} [Decidable p] [Decidable q] (hp : p) (hq : q) (h : A) : if (decide p && decide q) = true then A else B := by rw [decide_eq_true hp, decide_eq_true hq]; exact a_tt h
theorem a_cF {p q A B : Prop} [Decidable p] [Decidable q] (hp : ¬ (p ∧ q)) (h : B) : if (decide p && decide q) = true then A else B := by
  by_cases h1 : p
  · rw [decide_eq_true h1, decide_eq_false (fun z => hp ⟨h1, z⟩)]; exact a_ff h
  · rw [decide_eq_false h1]; exact a_ff h
theorem a_ncT {p q A B : Prop} [Decidable p] [Decidable q] (hp : p) (hq : q) (h : B) : if (!(decide p && decide q)) = true then A else B := by rw [decide_eq_true hp, decide_eq_true hq]; exact a_nt h
theorem a_isiI {i : Int} (h : Q (.bl true) H) : rIsi K [.int i, .ty "int"] H Q := ⟨_, _, .type "int", .type "int", true, rfl, .ty _, .base (.int i), kit_ty (by decide +kernel), h⟩
theorem a_isiB {i : Int} (h : Q (.bl false) H) : rIsi K [.int i, .ty "bool"] H Q := ⟨_, _, .type "int", .type "bool", false, rfl, .ty _, .base (.int i), kit_ty (by decide +kernel), h⟩
end
theorem divW {m n : Int} (h : 0 < n) (h' : n < 10 ^ 60) : CDivW m n := wide_div (b := 200) h (by
  have q : (10 : Int) ^ 60 < 2 ^ 200 := by decide
  have r : n < 2 ^ 200 := Int.lt_trans h' q
  omega) (by decide) (by decide)
theorem at0 {α : Type} {xs : List α} {n : Int} {j : Nat} {v : α} (e : n = (j : Int)) (h : xs[j]? = some v) : atI xs n = some v := by
  rw [e]; exact atI_nat h
end R
namespace R
open PySem PySem.Spec PyProof.Rows L2
theorem mx_w {i j : Int} (a b : Nat) (ha : i.natAbs < 2 ^ a) (hb : j.natAbs < 2 ^ b) (h0 : 0 < a := by decide) (h1 : 0 < b := by decide) (h : a + b ≤ 1000000 := by decide) : IntMulOk i j := (wide_mul ha hb h0 h1 h).ok
end R
namespace R
open PySem PySem.Spec PyProof.Rows L2
open PySem.W (Frag)
section
variable {K : Frag} {B H : Hp} {Lw : List (Addr × HO)} {p : Addr} {z : Int} {Q : VK}
/-- an item of a written list at a drawn place -/
theorem a_ixV {xs : List V} (O : Own B Lw H) (i : Nat) (h : Lw[i]? = some (p, .lst xs)) (h0 : 0 ≤ z) (h1 : z < xs.length) (q : ∀ v, v ∈ xs → Q v H) : rIxL K (.ref p) (.int z) H Q := by
  have e : z.toNat < xs.length := by omega
  exact a_ixL (O.sq i h) (at0 (j := z.toNat) (by omega) (List.getElem?_eq_getElem e)) (q _ (List.getElem_mem e))
theorem a_ixM {ms : List Int} (O : Own B Lw H) (i : Nat) (h : Lw[i]? = some (p, .lst (ms.map V.int))) (h0 : 0 ≤ z) (h1 : z < ms.length) (q : ∀ m, m ∈ ms → Q (.int m) H) : rIxL K (.ref p) (.int z) H Q :=
  a_ixV O i h h0 (by rw [List.length_map]; exact h1) fun v hv => by
    obtain ⟨m, hm, rfl⟩ := List.mem_map.mp hv
    exact q m hm
end
end R
namespace R
open PySem PySem.Spec PyProof.Rows L2
open PySem.W (Frag)
section
variable {K : Frag} {B H : Hp} {Lw : List (Addr × HO)} {p : Addr} {z : Int} {Q : VK}
/-- an item of a list of ints -/
theorem a_ixI {ms : List Int} (O : Own B Lw H) (i : Nat) (h : Lw[i]? = some (p, .lst (ms.map V.int))) (h0 : 0 ≤ z) (h1 : z.toNat < ms.length) (q : Q (.int (ms[z.toNat])) H) : rIxL K (.ref p) (.int z) H Q :=
  a_ixL (O.sq i h) (at0 (j := z.toNat) (by omega) (by rw [List.getElem?_map, List.getElem?_eq_getElem h1]; rfl)) q
end
end R
namespace R
open PySem PySem.Spec PyProof.Rows L2
/-- an if whose test comes out one way on all ways -/
theorem a_ifNo {c : TT} {t u : TS} {D : Ends} {σ : L2.St} {H : Hp} (hc : ∀ QB : Bool → Hp → Prop, QB false H → c σ H QB) (h : u D σ H) : tIfS c t u D σ H := hc _ (a_ff h)
theorem a_ifYes {c : TT} {t u : TS} {D : Ends} {σ : L2.St} {H : Hp} (hc : ∀ QB : Bool → Hp → Prop, QB true H → c σ H QB) (h : t D σ H) : tIfS c t u D σ H := hc _ (a_tt h)
theorem a_ifNoH {c : TT} {t u : TS} {D : Ends} {σ : L2.St} {H : Hp} (P : Hp → Prop) (hc : ∀ QB : Bool → Hp → Prop, (∀ H', P H' → QB false H') → c σ H QB) (h : ∀ H', P H' → u D σ H') : tIfS c t u D σ H := hc _ fun H' p => a_ff (h H' p)
end R
namespace R
open PySem PySem.Spec PyProof.Rows L2
theorem q_F {p : Prop} [Decidable p] {QB : Bool → Hp → Prop} {H : Hp} (hq : QB false H) (hp : ¬ p) : QB (decide p) H := by rw [decide_eq_false hp]; exact hq
theorem q_T {p : Prop} [Decidable p] {QB : Bool → Hp → Prop} {H : Hp} (hq : QB true H) (hp : p) : QB (decide p) H := by rw [decide_eq_true hp]; exact hq
theorem q_nT {p : Prop} [Decidable p] {QB : Bool → Hp → Prop} {H : Hp} (hq : QB false H) (hp : p) : QB (!decide p) H := by rw [decide_eq_true hp]; exact hq
theorem q_nF {p : Prop} [Decidable p] {QB : Bool → Hp → Prop} {H : Hp} (hq : QB true H) (hp : ¬ p) : QB (!decide p) H := by rw [decide_eq_false hp]; exact hq
end R
namespace R
open PySem PySem.Spec PyProof.Rows L2
/-- while: W by a measure -/
theorem a_while {c : TT} {tb : TS} {D : Ends} {σ : L2.St} {H : Hp} (W : Nat → L2.St → Hp → Prop) (h0 : ∃ m, W m σ H)
    (hs : ∀ m σ H, W m σ H → c σ H fun b H1 => if b = true then (∃ N : L2.St → Hp → Prop, (∀ σ' H', N σ' H' → ∃ m', m' < m ∧ W m' σ' H') ∧ tb { D with nx := N, ct := N, bk := D.nx } σ H1) else D.nx σ H1) : tWhile c tb D σ H := ⟨W, h0, hs⟩
theorem a_turn {tb : TS} {D : Ends} {σ : L2.St} {H1 : Hp} {m : Nat} {W : Nat → L2.St → Hp → Prop} (h : tb { D with nx := fun σ' H' => ∃ m', m' < m ∧ W m' σ' H', ct := fun σ' H' => ∃ m', m' < m ∧ W m' σ' H', bk := D.nx } σ H1) :
    ∃ N : L2.St → Hp → Prop, (∀ σ' H', N σ' H' → ∃ m', m' < m ∧ W m' σ' H') ∧ tb { D with nx := N, ct := N, bk := D.nx } σ H1 := ⟨_, fun _ _ h => h, h⟩
end R
namespace R
open PySem PySem.Spec PyProof.Rows L2
open PySem.W (Frag)
section
variable {K : Frag} {tr : TA} {tl : TE} {σ : L2.St} {H : Hp} {RR : It → Hp → Prop}
theorem a_enum {tr : TA} (h : tr σ H fun vs H1 => ∃ a xs, vs = [.ref a] ∧ SqL K H1 a xs ∧ RR (Ite K a) H1) : iEnum K tr σ H RR := h
theorem a_iL (h : tl σ H fun x H1 => ∃ a, x = .ref a ∧ (∃ xs, SqL K H1 a xs) ∧ RR (Itl K a) H1) : iList K tl σ H RR := h
theorem a_iT (h : tl σ H fun x H1 => ∃ a, x = .ref a ∧ (∃ xs, SqT K H1 a xs) ∧ RR (Itt K a) H1) : iTup K tl σ H RR := h
end
end R
namespace R
open PySem PySem.Spec PyProof.Rows L2
open PySem.W (Frag)
section
variable {K : Frag} {te : TE} {σ : L2.St} {H B : Hp} {Q : VK} {Lw : List (Addr × HO)} {a : Addr} {xs : List V}
def rRev (K : Frag) : V → Hp → VK → Prop := fun x H Q => ∃ a xs, x = .ref a ∧ SqL K H a xs ∧ ∀ p, H p = none → Q (.ref p) (upd H p (.lst xs.reverse))
theorem a_rev (h : te σ H fun x H1 => rRev K x H1 Q) : tRevL K te σ H Q := h
theorem a_revL (O : Own B Lw H) (hs : SqL K H a xs) (q : ∀ p H', H p = none → Own B ((p, .lst xs.reverse) :: Lw) H' → Q (.ref p) H') : rRev K (.ref a) H Q := ⟨a, xs, rfl, hs, fun p hp => q p _ hp (O.new hp)⟩
end
end R
namespace R
open PySem PySem.Spec PyProof.Rows L2
open PySem.W (Frag)
/-! ### within a comprehension: the frag named -/
theorem pe_fldK {X : Cx} {K : Frag} {e : Expr} {f : Str} {pos : Pos} {ta : TE} (he : PE X e ta) (hb : attributeBase e f X.env (eval e X.env) = eval e X.env) (hK : X.K = K := by rfl) : PE X (.Attribute e f pos) (tFld K ta f) := by
  subst hK; exact pe_fld he hb
theorem pg_tupK {X : Cx} {K : Frag} {pos : Pos} {es : List Expr} {k : Nat} {t : TGs} {n : Nat} (hc : X.calm = true) (h : PGs X es t) (hK : X.K = K := by rfl) (hn : (assignEach es X.env).length = n := by rfl) (hst : (assignEach es X.env).findIdx? (·.1) = none := by rfl) : PG X (.Tuple es k pos) (gTup K n t) := by
  subst hK; exact pg_tup hc h hn hst
end R

namespace R
/-! ## the first one of a row -/
theorem find_more {α : Type} {g : Nat → Option α} {i : Nat} (h : (List.range i).findSome? g = none) (e : g i = none) : (List.range (i + 1)).findSome? g = none := by
  rw [List.range_succ, List.findSome?_append, h]
  simp [e]
theorem find_hit {α : Type} {g : Nat → Option α} {i : Nat} {x : α} (h : (List.range i).findSome? g = none) (e : g i = some x) : ∀ n : Nat, i < n → (List.range n).findSome? g = some x := by
  intro n
  induction n with
  | zero => intro z; omega
  | succ n ih =>
    intro z
    rw [List.range_succ, List.findSome?_append]
    by_cases q : i = n
    · rw [← q, h]; simp [e]
    · rw [ih (by omega)]; rfl
theorem pow_bits {b : Int} {n m : Nat} (h0 : 0 ≤ b) (h1 : b ≤ 16) (hn : n ≤ m) : (b ^ n).natAbs < 2 ^ (4 * m + 1) := by
  rw [Int.natAbs_pow]
  have e1 : b.natAbs ≤ 16 := by omega
  have e2 : b.natAbs ^ n ≤ 16 ^ n := Nat.pow_le_pow_left e1 n
  have e3 : (16 : Nat) ^ n = 2 ^ (4 * n) := by rw [Nat.pow_mul]
  have e4 : (2 : Nat) ^ (4 * n) ≤ 2 ^ (4 * m) := Nat.pow_le_pow_right (by decide) (by omega)
  have e5 : (2 : Nat) ^ (4 * m + 1) = 2 ^ (4 * m) * 2 := Nat.pow_succ ..
  have e6 : 0 < (2 : Nat) ^ (4 * m) := Nat.pow_pos (by decide)
  omega
end R
namespace R
theorem find_ext {α : Type} {g : Nat → Option α} {n : Nat} : ∀ m : Nat, n ≤ m → (∀ i, n ≤ i → i < m → g i = none) → (List.range m).findSome? g = (List.range n).findSome? g := by
  intro m
  induction m with
  | zero => intro h _; rw [Nat.le_zero.mp h]
  | succ m ih =>
    intro h k
    by_cases e : n = m + 1
    · rw [e]
    · rw [List.range_succ, List.findSome?_append, ih (by omega) fun i h1 h2 => k i h1 (by omega)]
      simp [k m (by omega) (by omega)]
theorem find_same {α : Type} {g g' : Nat → Option α} : ∀ n : Nat, (∀ i, i < n → g i = g' i) → (List.range n).findSome? g = (List.range n).findSome? g' := by
  intro n
  induction n with
  | zero => intro _; rfl
  | succ n ih =>
    intro k
    rw [List.range_succ, List.findSome?_append, List.findSome?_append, ih fun i h => k i (by omega)]
    simp [k n (by omega)]
/-- the first hit: all of the rows ahead of i, and j of row i -/
def fst2 (h : Nat → Nat → Option Int) (B i j : Nat) : Option (Nat × Int) :=
  ((List.range i).findSome? fun p => ((List.range B).findSome? (h p)).map fun x => (p, x)).or (((List.range j).findSome? (h i)).map fun x => (i, x))
theorem fst2_yes {h : Nat → Nat → Option Int} {B i j : Nat} {x : Int} (e : h i j = some x) : fst2 h B i (j + 1) = (fst2 h B i j).or (some (i, x)) := by
  unfold fst2
  rw [List.range_succ, List.findSome?_append]
  cases (List.range i).findSome? fun p => ((List.range B).findSome? (h p)).map fun x => (p, x) <;> cases (List.range j).findSome? (h i) <;> simp [e]
theorem fst2_no {h : Nat → Nat → Option Int} {B i j : Nat} (e : h i j = none) : fst2 h B i (j + 1) = fst2 h B i j := by
  unfold fst2
  rw [List.range_succ, List.findSome?_append]
  cases (List.range j).findSome? (h i) <;> simp [e]
theorem fst2_row {h : Nat → Nat → Option Int} {B i : Nat} : fst2 h B (i + 1) 0 = fst2 h B i B := by
  unfold fst2
  rw [List.range_succ, List.findSome?_append]
  simp
theorem fst2_all {h : Nat → Nat → Option Int} {B i : Nat} : fst2 h B i 0 = (List.range i).findSome? fun p => ((List.range B).findSome? (h p)).map fun x => (p, x) := by
  unfold fst2
  simp
theorem head_snoc {α : Type} (ps : List α) (x : α) : (ps ++ [x]).head? = ps.head?.or (some x) := by
  cases ps <;> rfl
end R

namespace R
open PySem PySem.Spec PyProof.Rows L2
open PySem.W (Frag)
/-! ## lists and tuples as data -/
theorem canAll_map {α : Type} {f : α → PyData} (h : ∀ a, (f a).canLay0 = true) : ∀ l : List α, PyData.canLayAll0 (l.map f) = true
  | [] => rfl
  | a :: l => by
    show ((f a).canLay0 && PyData.canLayAll0 (l.map f)) = true
    rw [h a, canAll_map h l]; rfl
theorem depthAll_map {α : Type} {f : α → PyData} {n : Nat} (h : ∀ a, (f a).depth ≤ n) : ∀ l : List α, PyData.depthAll (l.map f) ≤ n
  | [] => Nat.zero_le _
  | a :: l => by
    have h1 := h a
    have h2 := depthAll_map h l
    show max (f a).depth (PyData.depthAll (l.map f)) ≤ n
    omega
theorem dpAll_map {α : Type} {K : Frag} {H : Hp} {g : α → V} {f : α → PyData} (h : ∀ a, Dp K H (g a) (f a)) : ∀ l : List α, DpAll K H (l.map g) (l.map f)
  | [] => .nil
  | a :: l => .cons (h a) (dpAll_map h l)
theorem shaped_of {d : PyData} (h1 : d.canLay0 = true) (h2 : d.depth ≤ 64) : SeqAt.shaped d = true := by
  unfold SeqAt.shaped
  rw [h1, decide_eq_true h2]; rfl
/-- a list of ints -/
def pyL (ns : List Int) : PyData := .list (ns.map .int)
def pyT (ns : List Int) : PyData := .tuple (ns.map .int)
theorem can_pyL (ns : List Int) : (pyL ns).canLay0 = true := canAll_map (fun _ => rfl) ns
theorem can_pyT (ns : List Int) : (pyT ns).canLay0 = true := canAll_map (fun _ => rfl) ns
theorem dep_pyL (ns : List Int) : (pyL ns).depth ≤ 1 := by
  have h := depthAll_map (f := PyData.int) (n := 0) (fun _ => Nat.le_refl 0) ns
  show PyData.depthAll (ns.map .int) + 1 ≤ 1
  omega
theorem dep_pyT (ns : List Int) : (pyT ns).depth ≤ 1 := by
  have h := depthAll_map (f := PyData.int) (n := 0) (fun _ => Nat.le_refl 0) ns
  show PyData.depthAll (ns.map .int) + 1 ≤ 1
  omega
section
variable {K : Frag} {H : Hp} {x y : V} {Q : VK} {d : PyData} {a b : Addr} {ns : List Int}
theorem dp_pyL (h : SqL K H a (ns.map V.int)) : Dp K H (.ref a) (pyL ns) := .lst h (dpAll_map (fun i => .int i) ns)
theorem dp_pyT (h : SqT K H a (ns.map V.int)) : Dp K H (.ref a) (pyT ns) := .tup h (dpAll_map (fun i => .int i) ns)
theorem a_eqD (hx : Dp K H x d) (hy : Dp K H y d) (h1 : d.canLay0 = true) (h2 : d.depth ≤ 64) (h : Q (.bl true) H) : rEqD K x y H Q :=
  ⟨d, d, hx, hy, shaped_of h1 h2, shaped_of h1 h2, by rw [SeqAt.eqv_refl d h1]; exact h⟩
theorem a_neD (hx : Dp K H x d) (hy : Dp K H y d) (h1 : d.canLay0 = true) (h2 : d.depth ≤ 64) (h : Q (.bl false) H) : rNeD K x y H Q :=
  ⟨d, d, hx, hy, shaped_of h1 h2, shaped_of h1 h2, by rw [SeqAt.eqv_refl d h1]; exact h⟩
theorem a_eqL (hx : SqL K H a (ns.map V.int)) (hy : SqL K H b (ns.map V.int)) (h : Q (.bl true) H) : rEqD K (.ref a) (.ref b) H Q := a_eqD (dp_pyL hx) (dp_pyL hy) (can_pyL ns) (Nat.le_trans (dep_pyL ns) (by decide)) h
theorem a_neL (hx : SqL K H a (ns.map V.int)) (hy : SqL K H b (ns.map V.int)) (h : Q (.bl false) H) : rNeD K (.ref a) (.ref b) H Q := a_neD (dp_pyL hx) (dp_pyL hy) (can_pyL ns) (Nat.le_trans (dep_pyL ns) (by decide)) h
theorem a_eqT (hx : SqT K H a (ns.map V.int)) (hy : SqT K H b (ns.map V.int)) (h : Q (.bl true) H) : rEqD K (.ref a) (.ref b) H Q := a_eqD (dp_pyT hx) (dp_pyT hy) (can_pyT ns) (Nat.le_trans (dep_pyT ns) (by decide)) h
theorem a_neT (hx : SqT K H a (ns.map V.int)) (hy : SqT K H b (ns.map V.int)) (h : Q (.bl false) H) : rNeD K (.ref a) (.ref b) H Q := a_neD (dp_pyT hx) (dp_pyT hy) (can_pyT ns) (Nat.le_trans (dep_pyT ns) (by decide)) h
end
end R
namespace R
open PySem PySem.Spec PyProof.Rows L2
open PySem.W (Frag)
theorem dpAll_snoc {K : Frag} {H : Hp} {v : V} {d : PyData} (h : Dp K H v d) : ∀ {vs : List V} {ds : List PyData}, DpAll K H vs ds → DpAll K H (vs ++ [v]) (ds ++ [d])
  | _, _, .nil => .cons h .nil
  | _, _, .cons h1 h2 => .cons h1 (dpAll_snoc h h2)
theorem dpAll_len {K : Frag} {H : Hp} : ∀ {vs : List V} {ds : List PyData}, DpAll K H vs ds → vs.length = ds.length
  | _, _, .nil => rfl
  | _, _, .cons _ h2 => by rw [List.length_cons, List.length_cons, dpAll_len h2]
/-- a pair of ints -/
def pyP (p : Nat × Int) : PyData := .tuple [.int p.1, .int p.2]
theorem can_pyP (p : Nat × Int) : (pyP p).canLay0 = true := rfl
theorem dep_pyP (p : Nat × Int) : (pyP p).depth ≤ 1 := Nat.le_refl 1
theorem dp_pyP {K : Frag} {H : Hp} {a : Addr} {p : Nat × Int} (h : SqT K H a [.int p.1, .int p.2]) : Dp K H (.ref a) (pyP p) := .tup h (.cons (.int _) (.cons (.int _) .nil))
/-- != by data that is not the same -/
theorem a_neD' {K : Frag} {H : Hp} {x y : V} {Q : VK} {d e : PyData} (hx : Dp K H x d) (hy : Dp K H y e) (h1 : d.canLay0 = true) (h2 : d.depth ≤ 64) (h3 : e.canLay0 = true) (h4 : e.depth ≤ 64) (n : PyData.eqv d e = false) (h : Q (.bl true) H) : rNeD K x y H Q :=
  ⟨d, e, hx, hy, shaped_of h1 h2, shaped_of h3 h4, by rw [n]; exact h⟩
theorem a_eqD' {K : Frag} {H : Hp} {x y : V} {Q : VK} {d e : PyData} (hx : Dp K H x d) (hy : Dp K H y e) (h1 : d.canLay0 = true) (h2 : d.depth ≤ 64) (h3 : e.canLay0 = true) (h4 : e.depth ≤ 64) (n : PyData.eqv d e = false) (h : Q (.bl false) H) : rEqD K x y H Q :=
  ⟨d, e, hx, hy, shaped_of h1 h2, shaped_of h3 h4, by rw [n]; exact h⟩
end R

/-! ## fields of an own instance -/
namespace R
open PySem PySem.Spec PyProof.Rows L2
open PySem.W (Frag)
def rFld (K : Frag) (f : Str) : V → Hp → VK → Prop := fun x H Q => ∃ a C dx fs v, x = .ref a ∧ H a = some (.ins C dx fs) ∧ Cls K C ∧ NoAttr K C f ∧ fs.lookup f = some v ∧ Q v H
def rSetF (K : Frag) (f : Str) : V → V → Hp → (Hp → Prop) → Prop := fun x y H P => ∃ a C dx fs, x = .ref a ∧ H a = some (.ins C dx fs) ∧ Cls K C ∧ NoAttr K C f ∧ fs.length < 1000 ∧ P (upd H a (.ins C dx (putF f y fs)))
def NewI (C : Addr) (sp : Sp) (dvs : List V) (E : XK) (vs : List V) (H : Hp) (Q : VK) : Prop := ∀ x dx, H x = none → H dx = none → dx ≠ x →
  sp (.ref x :: (vs ++ dvs)) (upd (upd H dx (.own x)) x (.ins C dx [])) (fun v H2 => v = .non ∧ Q (.ref x) H2) E
section
variable {K : Frag} {f g : Str} {ta tv : TE} {σ : L2.St} {H B : Hp} {Q : VK} {D : Ends} {Lw : List (Addr × HO)} {a C dx : Addr} {fs : List (Str × V)} {v y : V}
theorem a_fld (h : ta σ H fun x H1 => rFld K f x H1 Q) : tFld K ta f σ H Q := h
theorem a_sfld (h : tv σ H fun y H1 => ta σ H1 fun x H2 => rSetF K f x y H2 fun H3 => D.nx σ H3) : sFld K ta tv f D σ H := h
theorem a_getF (h : H a = some (.ins C dx fs)) (cl : Cls K C) (n : NoAttr K C f) (hl : fs.lookup f = some v) (q : Q v H) : rFld K f (.ref a) H Q := ⟨a, C, dx, fs, v, rfl, h, cl, n, hl, q⟩
theorem a_setF {P : Hp → Prop} (O : Own B Lw H) (i : Nat) (h : Lw[i]? = some (a, .ins C dx fs)) (cl : Cls K C) (n : NoAttr K C f) (hl : fs.length < 1000) (q : ∀ H', Own B (Lw.set i (a, .ins C dx (putF f y fs))) H' → P H') : rSetF K f (.ref a) y H P :=
  ⟨a, C, dx, fs, rfl, O.get i h, cl, n, hl, q _ (O.put i h)⟩
theorem lk_eq : ((f, v) :: fs).lookup f = some v := by
  have hb : (f == f) = true := beq_iff_eq.mpr rfl
  simp only [List.lookup, hb]
theorem lk_ne (h : ¬ f = g) : ((g, v) :: fs).lookup f = fs.lookup f := by
  have hb : (f == g) = false := beq_eq_false_iff_ne.mpr h
  simp only [List.lookup, hb]
theorem put_ne (h : ¬ g = f) : putF f y ((g, v) :: fs) = (g, v) :: putF f y fs := by
  show (if g = f then (g, y) :: fs else (g, v) :: putF f y fs) = _
  rw [if_neg h]
theorem put_eq : putF f y ((f, v) :: fs) = (f, y) :: fs := by
  show (if f = f then (f, y) :: fs else (f, v) :: putF f y fs) = _
  rw [if_pos rfl]
theorem put_nil : putF f y [] = [(f, y)] := rfl
/-- a new instance -/
theorem a_make {sp : Sp} {dvs : List V} {E : XK} {t : TA} (h : t σ H fun vs H1 => NewI C sp dvs E vs H1 Q) : tMake C sp dvs E t σ H Q := h
end
end R

namespace R
open PySem PySem.Spec PyProof.Rows L2
open PySem.W (Frag)
variable {K : Frag} {v : V} {σ : L2.St} {H : Hp}
theorem a_glst {n : Nat} {gs : TGs} {p : Addr} {xs : List V} {Qs : L2.St → Hp → Prop} (hs : SqL K H p xs) (hl : xs.length = n) (h : gs xs σ H Qs) : gLst K n gs (.ref p) σ H Qs := ⟨p, xs, rfl, hs, hl, h⟩
theorem pg_lstK {X : Cx} {pos : Pos} {es : List Expr} {k : Nat} {t : TGs} {n : Nat} (hc : X.calm = true) (h : PGs X es t) (hK : X.K = K := by rfl) (hn : (assignEach es X.env).length = n := by rfl) (hst : (assignEach es X.env).findIdx? (·.1) = none := by rfl) : PG X (.Tuple es k pos) (gLst K n t) := by
  subst hK; exact pg_lst hc h hn hst
end R

/-! ## the numbers behind, and the first that fail -/
namespace R
open PySem PySem.Spec PyProof.Rows L2
open PySem.W (Frag)
/-- what a trick makes of n -/
def beh (b k t n : Int) : Int := n / b ^ k.toNat + t * (n % b ^ k.toNat)
/-- a number or None -/
def optV : Option Int → V
  | none => .non
  | some n => .int n
/-- the least number below i with p -/
def fstB (p : Int → Bool) (i : Nat) : Option Int := (List.range i).findSome? fun (j : Nat) => if p j = true then some (j : Int) else none
theorem fstB_zero {p : Int → Bool} : fstB p 0 = none := rfl
theorem fstB_step {p : Int → Bool} {i : Nat} : fstB p (i + 1) = (fstB p i).or (if p i = true then some (i : Int) else none) := by
  unfold fstB
  rw [List.range_succ, List.findSome?_append]
  congr 1
  cases c : p (i : Int) <;> simp [List.findSome?, c]
theorem fstB_yes {p : Int → Bool} {i : Nat} (h : fstB p i = none) (e : p i = true) : fstB p (i + 1) = some (i : Int) := by rw [fstB_step, h, if_pos e]; rfl
theorem fstB_no {p : Int → Bool} {i : Nat} (h : fstB p i = none) (e : p i = false) : fstB p (i + 1) = none := by rw [fstB_step, h, e]; rfl
theorem fstB_old {p : Int → Bool} {i : Nat} {x : Int} (h : fstB p i = some x) : fstB p (i + 1) = some x := by rw [fstB_step, h]; rfl
theorem fstB_hit {p : Int → Bool} {i : Nat} (h : fstB p i = none) (e : p i = true) : ∀ n : Nat, i < n → fstB p n = some (i : Int) := find_hit h (if_pos e)
theorem fstB_none {p : Int → Bool} {n : Nat} (h : fstB p n = none) {x : Int} (h0 : 0 ≤ x) (h1 : x < n) : p x = false := by
  unfold fstB at h
  rw [List.findSome?_eq_none_iff] at h
  have q := h x.toNat (List.mem_range.mpr (by omega))
  have e : ((x.toNat : Nat) : Int) = x := by omega
  rw [e] at q
  cases c : p x with
  | false => rfl
  | true => rw [if_pos c] at q; cases q
theorem fstB_some {p : Int → Bool} {n : Nat} {x : Int} (h : fstB p n = some x) : 0 ≤ x ∧ x < n ∧ p x = true := by
  unfold fstB at h
  obtain ⟨i, hi, e⟩ := List.exists_of_findSome?_eq_some h
  have h1 := List.mem_range.mp hi
  split at e
  · rename_i c
    cases e
    exact ⟨by omega, by omega, c⟩
  · cases e
/-- no rest is kept; a multiple and none -/
def unl (b k t d n : Int) : Bool := !decide (n % d = beh b k t n % d)
def fls (b k t d n : Int) : Bool := decide (n % d = 0) != decide (beh b k t n % d = 0)
theorem beh_turn {b k t d q m : Int} (hB : 0 < b ^ k.toNat) : beh b k t (q * (d * b ^ k.toNat) + m) = q * d + beh b k t m := by
  unfold beh
  generalize b ^ k.toNat = B at *
  have e : q * (d * B) + m = m + B * (q * d) := by
    rw [← Int.mul_assoc, Int.mul_comm (q * d) B]; omega
  rw [e, Int.add_mul_ediv_left _ _ (by omega), Int.add_mul_emod_self_left]
  omega
theorem turn_of {b k t d : Int} (hB : 0 < b ^ k.toNat) (hd : 0 < d) (n : Int) : ∃ m : Int, 0 ≤ m ∧ m < d * b ^ k.toNat ∧ n % d = m % d ∧ beh b k t n % d = beh b k t m % d := by
  have h : 0 < d * b ^ k.toNat := Int.mul_pos hd hB
  refine ⟨n % (d * b ^ k.toNat), Int.emod_nonneg _ (by omega), Int.emod_lt_of_pos _ h, ?_, ?_⟩
  · rw [Int.emod_emod_of_dvd _ (Int.dvd_mul_right d _)]
  · have e := Int.mul_ediv_add_emod n (d * b ^ k.toNat)
    rw [Int.mul_comm] at e
    have q := beh_turn (t := t) (d := d) (q := n / (d * b ^ k.toNat)) (m := n % (d * b ^ k.toNat)) hB
    rw [e] at q
    rw [q, Int.add_comm, Int.add_mul_emod_self_right]
theorem unl_all {b k t d : Int} (hB : 0 < b ^ k.toNat) (hd : 0 < d) (h : fstB (unl b k t d) (d * b ^ k.toNat).toNat = none) (n : Int) : unl b k t d n = false := by
  obtain ⟨m, h0, h1, e1, e2⟩ := turn_of (t := t) hB hd n
  have q := fstB_none h h0 (by omega)
  unfold unl at *
  rw [e1, e2]; exact q
theorem fls_all {b k t d : Int} (hB : 0 < b ^ k.toNat) (hd : 0 < d) (h : fstB (fls b k t d) (d * b ^ k.toNat).toNat = none) (n : Int) : fls b k t d n = false := by
  obtain ⟨m, h0, h1, e1, e2⟩ := turn_of (t := t) hB hd n
  have q := fstB_none h h0 (by omega)
  unfold fls at *
  rw [e1, e2]; exact q
section
variable {H : Hp} {Q : VK}
theorem a_neB {p q : Bool} (h : Q (.bl (p != q)) H) : rNe (.bl p) (.bl q) H Q := ⟨rfl, by rw [dec_bl]; exact h⟩
theorem a_eqB {p q : Bool} (h : Q (.bl (p == q)) H) : rEq (.bl p) (.bl q) H Q := ⟨rfl, by rw [dec_bl]; exact h⟩
theorem a_isO1 (h : Q (.bl true) H) : rIsN (optV none) .non H Q := a_isN1 h
theorem a_isO0 {n : Int} (h : Q (.bl false) H) : rIsN (optV (some n)) .non H Q := a_isN0 (fun z => by cases z) h
theorem a_notO1 (h : Q (.bl false) H) : rNotN (optV none) .non H Q := a_notN1 h
theorem a_notO0 {n : Int} (h : Q (.bl true) H) : rNotN (optV (some n)) .non H Q := a_notN0 (fun z => by cases z) h
theorem a_neO {o : Option Int} (h : Q (.bl false) H) : rNe (optV o) (optV o) H Q := by
  refine ⟨?_, ?_⟩
  · cases o <;> rfl
  · rw [decide_eq_true rfl]; exact h
end
end R
namespace R
open PySem PySem.Spec PyProof.Rows L2
theorem a_par3 {i j l : Nat} {tr : TA} {D : Ends} {σ : L2.St} {H : Hp} (h : tr σ H fun vs H1 => ∃ u v w, vs = [u, v, w] ∧ D.nx (((σ.set i (some u)).set j (some v)).set l (some w)) H1) : tPar3 i j l tr D σ H := h
theorem a_par33 {x y z : V} {A : V → V → V → Prop} (h : A x y z) : ∃ u v w, [x, y, z] = [u, v, w] ∧ A u v w := ⟨x, y, z, rfl, h⟩
end R

namespace R
/-- the powers of B by their rests -/
def pw (B d : Nat) : Nat → Nat
  | 0 => 1 % d
  | i + 1 => pw B d i * B % d
def runP (B d : Nat) : Nat → Nat → List Nat
  | 0, x => [x]
  | n + 1, x => x :: runP B d n (x * B % d)
def okP : List Nat → Bool
  | [] => true
  | [_] => true
  | x :: y :: l => okQ x y (y :: l) && okP (y :: l)
where okQ (x y : Nat) : List Nat → Bool
  | u :: v :: l => (y != v || x == u) && okQ x y (v :: l)
  | _ => true
def allP : Bool := (List.range 31).all fun d => (List.range 31).all fun r => okP (runP r d 15 (pw r d 5))
theorem allP_ok : allP = true := by decide +kernel
end R
namespace R
theorem okQ_imp {x y : Nat} : ∀ {M : List Nat} (_ : okP.okQ x y M = true) (k : Nat) (h : k + 1 < M.length), y = M[k + 1] → x = M[k]
  | [], _, k, h, _ => by simp at h
  | [_], _, k, h, _ => by simp at h
  | u :: v :: l, o, 0, _, e => by
    unfold okP.okQ at o
    rw [Bool.and_eq_true] at o
    have q := o.1
    simp only [List.getElem_cons_succ, List.getElem_cons_zero] at e ⊢
    simpa [e] using q
  | u :: v :: l, o, k + 1, h, e => by
    unfold okP.okQ at o
    rw [Bool.and_eq_true] at o
    exact okQ_imp (M := v :: l) o.2 k (by simpa using h) e
theorem okP_imp : ∀ {L : List Nat} (_ : okP L = true) (a c : Nat) (_ : a < c) (h : c + 1 < L.length), L[a + 1] = L[c + 1] → L[a] = L[c]
  | [], _, a, c, _, h, _ => by simp at h
  | [_], _, a, c, _, h, _ => by simp at h
  | x :: y :: l, o, 0, c + 1, _, h, e => by
    unfold okP at o
    rw [Bool.and_eq_true] at o
    exact okQ_imp o.1 c (by simpa using h) e
  | x :: y :: l, o, a + 1, c + 1, hac, h, e => by
    unfold okP at o
    rw [Bool.and_eq_true] at o
    exact okP_imp (L := y :: l) o.2 a c (by omega) (by simpa using h) e
theorem pw_mod (B d : Nat) : ∀ i, pw (B % d) d i = pw B d i
  | 0 => rfl
  | i + 1 => by
    show pw (B % d) d i * (B % d) % d = pw B d i * B % d
    rw [pw_mod B d i, Nat.mul_mod, Nat.mod_mod, ← Nat.mul_mod]
theorem runP_len (B d : Nat) : ∀ n x, (runP B d n x).length = n + 1
  | 0, _ => rfl
  | n + 1, x => by show (runP B d n _).length + 1 = n + 1 + 1; rw [runP_len B d n]
theorem runP_at (B d : Nat) : ∀ (n s k : Nat) (h : k < (runP B d n (pw B d s)).length), (runP B d n (pw B d s))[k] = pw B d (s + k)
  | 0, s, k, h => by
    have e : k = 0 := by
      have : k < 1 := h
      omega
    subst e; rfl
  | n + 1, s, 0, h => rfl
  | n + 1, s, k + 1, h => by
    have q := runP_at B d n (s + 1) k (by rw [runP_len] at h ⊢; omega)
    rw [show s + (k + 1) = s + 1 + k by omega]
    exact q
/-- how many powers stand ahead of those that come again -/
theorem few {B d i j : Nat} (hd : d ≤ 30) (hd0 : 0 < d) (hi : i ≤ 20) (hj : j < i) (e : pw B d j = pw B d i) (dis : ∀ a b, a < b → b < i → pw B d a ≠ pw B d b) : j ≤ 5 := by
  by_cases c : j ≤ 5
  · exact c
  · exfalso
    have hr : B % d < d := Nat.mod_lt _ hd0
    have o := allP_ok
    unfold allP at o
    rw [List.all_eq_true] at o
    have o1 := o d (List.mem_range.mpr (by omega))
    rw [List.all_eq_true] at o1
    have o2 := o1 (B % d) (List.mem_range.mpr (by omega))
    have q := okP_imp o2 (j - 6) (i - 6) (by omega) (by rw [runP_len]; omega)
    rw [runP_at, runP_at, runP_at, runP_at, pw_mod, pw_mod, pw_mod, pw_mod] at q
    rw [show 5 + (j - 6 + 1) = j by omega, show 5 + (i - 6 + 1) = i by omega, show 5 + (j - 6) = j - 1 by omega, show 5 + (i - 6) = i - 1 by omega] at q
    exact dis (j - 1) (i - 1) (by omega) (by omega) (q e)
end R

/-! ## lists of ints: in, index, slices -/
namespace R
open PySem PySem.Spec PyProof.Rows L2
open PySem.W (Frag)
theorem flat_ints (ms : List Int) : (ms.map V.int).all flatV = true := by
  rw [List.all_map]; exact List.all_eq_true.mpr fun _ _ => rfl
theorem inV_ints (r : Int) (ms : List Int) : inV (.int r) (ms.map V.int) = decide (r ∈ ms) := by
  unfold inV
  rw [List.any_map, Bool.eq_iff_iff, List.any_eq_true, decide_eq_true_iff]
  constructor
  · rintro ⟨x, hx, e⟩
    have e : (x == r) = true := e
    rw [beq_iff_eq] at e
    rw [← e]; exact hx
  · intro h
    exact ⟨r, h, by show (r == r) = true; exact beq_self_eq_true r⟩
section
variable {K : Frag} {B H : Hp} {Lw : List (Addr × HO)} {p : Addr} {r : Int} {ms : List Int} {Q : VK}
theorem a_inI (hs : SqL K H p (ms.map V.int)) (h : Q (.bl (decide (r ∈ ms))) H) : rIn K false (.int r) (.ref p) H Q :=
  ⟨p, _, rfl, .inl hs, rfl, flat_ints ms, by show Q (.bl (inV _ _)) H; rw [inV_ints]; exact h⟩
theorem a_ninI (hs : SqL K H p (ms.map V.int)) (h : Q (.bl (!decide (r ∈ ms))) H) : rIn K true (.int r) (.ref p) H Q :=
  ⟨p, _, rfl, .inl hs, rfl, flat_ints ms, by show Q (.bl (!inV _ _)) H; rw [inV_ints]; exact h⟩
theorem a_indexI {j : Nat} (hs : SqL K H p (ms.map V.int)) (hj : ms[j]? = some r) (hm : ∀ (m : Nat) (z : Int), m < j → ms[m]? = some z → z ≠ r) (h : Q (.int (j : Nat)) H) : rIndex K (.ref p) [.int r] H Q :=
  ⟨p, _, .int r, j, .int r, rfl, rfl, hs, rfl, flat_ints ms, by rw [List.getElem?_map, hj]; rfl, by show (r == r) = true; exact beq_self_eq_true r, fun m z' hm' e => by
    rw [List.getElem?_map] at e
    cases q : ms[m]? with
    | none => rw [q] at e; cases e
    | some z =>
      rw [q] at e
      have e : V.int z = z' := Option.some.inj e
      rw [← e]
      show (z == r) = false
      exact beq_eq_false_iff_ne.mpr (hm m z hm' q), h⟩
theorem cut_to (ms : List Int) (k : Nat) : cutV (ms.map V.int) none (some (k : Int)) = (ms.take k).map V.int := by
  unfold cutV
  rw [HT.sIx_none, HT.sIx_nat, List.drop_zero, Nat.sub_zero, List.map_take]
  by_cases c : k ≤ (ms.map V.int).length
  · rw [Nat.min_eq_left c]
  · rw [Nat.min_eq_right (by omega), List.take_of_length_le (by omega), List.take_of_length_le (by omega)]
theorem cut_from (ms : List Int) (k : Nat) : cutV (ms.map V.int) (some (k : Int)) none = (ms.drop k).map V.int := by
  unfold cutV
  rw [HT.sIx_none, HT.sIx_nat, List.map_drop]
  by_cases c : k ≤ (ms.map V.int).length
  · rw [Nat.min_eq_left c]
    exact List.take_of_length_le (by rw [List.length_drop]; omega)
  · rw [Nat.min_eq_right (by omega), List.drop_of_length_le (by omega), List.drop_of_length_le (by omega), List.take_nil]
theorem a_slTo {k : Nat} {n : Int} (hn : n = (k : Int)) (O : Own B Lw H) (hs : SqL K H p (ms.map V.int)) (q : ∀ l H', H l = none → Own B ((l, .lst ((ms.take k).map V.int)) :: Lw) H' → Q (.ref l) H') : rSlL K (.ref p) none (some n) H Q := by
  subst hn
  exact ⟨p, _, rfl, hs, fun l hl => by rw [cut_to]; exact q l _ hl (O.new hl)⟩
theorem a_slFrom {k : Nat} {n : Int} (hn : n = (k : Int)) (O : Own B Lw H) (hs : SqL K H p (ms.map V.int)) (q : ∀ l H', H l = none → Own B ((l, .lst ((ms.drop k).map V.int)) :: Lw) H' → Q (.ref l) H') : rSlL K (.ref p) (some n) none H Q := by
  subst hn
  exact ⟨p, _, rfl, hs, fun l hl => by rw [cut_from]; exact q l _ hl (O.new hl)⟩
end
theorem first_in {r : Int} : ∀ {ms : List Int}, r ∈ ms → ∃ j : Nat, ms[j]? = some r ∧ ∀ (m : Nat) (z : Int), m < j → ms[m]? = some z → z ≠ r
  | [], h => by simp at h
  | x :: l, h => by
    by_cases c : x = r
    · exact ⟨0, by rw [c]; rfl, fun m z hm => by omega⟩
    · rcases List.mem_cons.mp h with z | z
      · exact absurd z.symm c
      · obtain ⟨j, h1, h2⟩ := first_in z
        refine ⟨j + 1, h1, fun m z hm e => ?_⟩
        cases m with
        | zero =>
          have e : x = z := Option.some.inj e
          rw [← e]; exact c
        | succ m => exact h2 m z (by omega) e
/-- the powers' rests as ints -/
def PL (B d i : Nat) : List Int := (List.range i).map fun j => ((pw B d j : Nat) : Int)
theorem PL_succ (B d i : Nat) : PL B d (i + 1) = PL B d i ++ [((pw B d i : Nat) : Int)] := by
  unfold PL
  rw [List.range_succ, List.map_append]; rfl
theorem PL_len (B d i : Nat) : (PL B d i).length = i := by unfold PL; rw [List.length_map, List.length_range]
theorem PL_at {B d i j : Nat} (h : j < i) : (PL B d i)[j]? = some ((pw B d j : Nat) : Int) := by
  unfold PL
  rw [List.getElem?_map, List.getElem?_range h]; rfl
theorem PL_mem {B d i : Nat} {x : Int} (h : x ∈ PL B d i) : ∃ j, j < i ∧ x = ((pw B d j : Nat) : Int) := by
  obtain ⟨j, h1, h2⟩ := List.mem_map.mp h
  exact ⟨j, List.mem_range.mp h1, h2.symm⟩
theorem pw_lt {B d : Nat} (hd : 0 < d) : ∀ i, pw B d i < d
  | 0 => Nat.mod_lt _ hd
  | i + 1 => Nat.mod_lt _ hd
theorem PL_bd {B d i : Nat} (hd : 0 < d) {x : Int} (h : x ∈ PL B d i) : 0 ≤ x ∧ x < d := by
  obtain ⟨j, _, rfl⟩ := PL_mem h
  have := pw_lt (B := B) hd j
  omega
theorem pw_zero (B d : Nat) : (1 : Int) % (d : Int) = ((pw B d 0 : Nat) : Int) := rfl
theorem pw_next (B d i : Nat) : ((pw B d i : Nat) : Int) * (B : Int) % (d : Int) = ((pw B d (i + 1) : Nat) : Int) := rfl
end R

/-! ## sets of ints, however many: set(xs), sorted, len -/
namespace R
open PySem PySem.Spec PyProof.Rows L2
open PySem.W (Frag)
/-- a set with nothing in it -/
abbrev noSet (w : World) : Obj := { cls := .type "set", dict := none, data := .set #[] 0 (.fresh 0 0 (!w.params.followText "set-order")) }
section
variable {P : Program} {w : World} {A : Around} {E : Value → Shared → Prop} {s : Shared}
set_option maxRecDepth 100000 in
set_option maxHeartbeats 3200000 in
theorem set_of_list {l : Addr} {its : Array Value} (ns : List Int) {Q : Value → Shared → Prop} (hh : A.handled = none) (hl : s.heap.IsList l its) (hi : IntsAre its.toList ns) (hb : ns.length + 1 < scanBound)
    (h : ∀ (H : Heap) (k c : Nat), SetR w H s.heap.objs.size (fun j => decide (j ∈ ns)) c → c ≤ ns.length → (∀ b o, s.heap.get? b = some o → H.get? b = some o) → Q (.ref s.heap.objs.size) { s with heap := H, toks := k }) :
    wpAny (model P w) A (call (.type "set") [.ref l]) Q E s := by
  have nlen : its.size = ns.length := Array.length_toList.symm.trans (IntsAre.length hi)
  obtain ⟨c0, t0, mro0⟩ := F.called_set.mro
  have made0 := F.called_set.made
  have sub0 := F.called_set.sub
  have ty0 := F.called_set.notType
  have can0 := F.called_set.canCreate
  have tc0 := F.typeCall_set_1 (.ref l)
  have init0 := F.called_set.init.lookup
  have bind0 := F.called_set.init.bind (.ref s.heap.objs.size)
  refine wpAny_call (codeAny_of_tree ?_)
  show wpAny _ _ (callAny (.type "set") _) _ _ _
  refine wpAny_pure ⟨Code.quiet_builtin _ (by decide +kernel), ?_⟩
  refine codeAny_builtin F.entry_type_call ?_
  rw [Around.under_plain (weight_type_call_type "set" [.ref l] []) rfl]
  repeat (any_goals (first | assumption | wp_step))
  have nw := code_set_led1 (P := P) (w := w) (A := A.in1) (s := s) (E := E) (.ref l) (Q₁ := fun v t => v = .ref s.heap.objs.size ∧ t = { s with heap := s.heap.push (noSet w) }) ⟨rfl, rfl⟩
  refine codeAny_mono nw fun r t hr => ?_
  rcases r with e | fl
  · exact hr
  rcases fl with _ | _ | _ | v
  all_goals (try exact hr.elim)
  obtain ⟨rfl, rfl⟩ := hr
  have at1 : (s.heap.push (noSet w)).get? s.heap.objs.size = some (noSet w) := Heap.get?_push_size _ rfl
  have ty1 : Shared.TypeIs { s with heap := s.heap.push (noSet w) } (.ref s.heap.objs.size) "set" := ⟨_, at1, rfl⟩
  repeat (any_goals (first | assumption | wp_step))
  have fill : codeAny (model P w) A.in1 (.call (.builtin "set.__init__") ⟨[.ref s.heap.objs.size, .ref l], []⟩) (wants (fun r t => r = .none ∧ ∃ H k c, t = { s with heap := H, toks := k } ∧ SetR w H s.heap.objs.size (fun j => decide (j ∈ ns)) c ∧ c ≤ ns.length ∧ (∀ b o, s.heap.get? b = some o → H.get? b = some o)) E) { s with heap := s.heap.push (noSet w) } := by
    refine codeAny_call_builtin F.called_set.init.plain F.entry_set_init (check_set_init_1 ty1 ?_)
    obtain ⟨⟨oc, od, odt, osl⟩, at0, c1, n1, d1⟩ := hl
    simp only at c1 d1
    subst c1
    subst d1
    have at2 := Heap.get?_push_of_some (noSet w) at0
    have isl : (s.heap.push (noSet w)).IsList l its := ⟨_, at2, rfl, n1, rfl⟩
    have no1 := F.sub_list_set
    have no2 := F.sub_list_frozenset
    have no3 : (Value.type "list" == Value.type "dict") = false := by decide
    unfold Builtin.«set.__init__» noKeywords Builtin.Frozenset.updateFrom
    generalize hit : pyIter = it
    wp_walk
    subst hit
    refine wpAny_pyIter_list isl ?_
    refine wpAny_bind (wpAny_runValue ?_)
    have lS : l < s.heap.objs.size := Heap.lt_size at0
    have hh3 : A.in1.in1.in1.handled = none := by simp [hh]
    have sz : (s.heap.push (noSet w)).objs.size = s.heap.objs.size + 1 := Heap.size_push ..
    have ne1 : l ≠ (s.heap.push (noSet w)).objs.size := by rw [sz]; exact Nat.ne_of_lt (Nat.lt_succ_of_lt lS)
    have ne2 : s.heap.objs.size ∉ [(s.heap.push (noSet w)).objs.size, l] := fun z => by
      rcases List.mem_cons.mp z with z | z
      · exact absurd (z.trans sz) (Nat.ne_of_lt (Nat.lt_succ_self _))
      · exact absurd (List.mem_singleton.mp z) (Nat.ne_of_gt lS)
    have vals : ∀ (i : Nat) (v : Value), its[i]? = some v → ∃ k t, ns[i]? = some k ∧ v = .int k t := fun i v hv => by
      have hi2 : i < ns.length := nlen ▸ (Array.getElem?_eq_some_iff.mp hv).1
      obtain ⟨t, e⟩ := IntsAre.int_at hi i v (by rw [Array.getElem?_toList]; exact hv)
      refine ⟨ns[i], t, List.getElem?_eq_getElem hi2, ?_⟩
      rw [e, List.getD_eq_getElem?_getD, List.getElem?_eq_getElem hi2] <;> rfl
    have W := (Walks.list hh3 (prog := P) (w := w) _ l ne1 its).toS
    refine set_update_ints W s.heap.objs.size ne2 ns nlen hb vals (its.size - 0) 0 _ (by omega) (Nat.zero_le _) ⟨⟨_, Heap.get?_push_size _ rfl, rfl, rfl⟩, isl.push _⟩ ⟨0, Nat.le_refl 0, setR_new_at (Heap.get?_push_of_some _ at1)⟩ fun t c hm hc hS => ?_
    obtain ⟨H, g, d, k, os⟩ := t
    obtain rfl : g = s.gens := hm.gens
    obtain rfl : d = s.drawn := hm.drawn
    obtain rfl : os = s.os := hm.os
    show wpAny _ _ _ _ _ _
    refine wpAny_pure ?_
    show wpAny _ _ (ret Value.none) _ _ _
    refine wpAny_pure ⟨rfl, H, k, c, rfl, hS, nlen ▸ hc, fun b o e => ?_⟩
    have b0 : b < s.heap.objs.size := Heap.lt_size e
    refine hm.heap b o ?_ (Heap.get?_push_of_some _ (Heap.get?_push_of_some _ e))
    intro z
    rcases List.mem_cons.mp z with z | z
    · exact Nat.ne_of_lt b0 z
    · exact Nat.ne_of_lt (Nat.lt_succ_of_lt b0) ((List.mem_singleton.mp z).trans sz)
  refine codeAny_mono fill fun r t hr => ?_
  rcases r with e | fl
  · exact hr
  rcases fl with _ | _ | _ | v
  all_goals (try exact hr.elim)
  obtain ⟨rfl, H, k, c, rfl, hS, hc, hk⟩ := hr
  repeat (any_goals (first | assumption | wp_step))
  exact h _ _ _ hS hc hk
end
end R
namespace R
open PySem PySem.Spec PyProof.Rows L2
open PySem.W (Frag)
section
variable {P : Program} {w : World} {A : Around} {E : Value → Shared → Prop} {s : Shared}
/-- sorted(a set), however many -/
theorem sorted_of_set {a : Addr} {S : Int → Bool} {n : Nat} {Q : Value → Shared → Prop} (R : SetR w s.heap a S n) (hh : A.handled = none)
    (h : ∀ t p (out : Array Value) (c : Nat) (ns : List Int), (∀ b o, s.heap.get? b = some o → t.heap.get? b = some o) → t.gens = s.gens → t.os = s.os → s.heap.objs.size ≤ p →
      t.heap.get? p = some (seqObj "list" out c) → IntsAre out.toList ns → ns.Pairwise (· < ·) → (∀ k, k ∈ ns ↔ S k = true) → ns.length ≤ sizeLine → Q (.ref p) t) :
    wpAny (model P w) A (call (.builtin "sorted") [.ref a]) Q E s := by
  obtain ⟨o, es, ep, t, ho, hex, hd, g, nd, hm, hb, hf, hn, hr, hl⟩ := R
  refine Calls.call_function_entry kind_sorted plain_sorted entry_sorted (args_sorted1 _) ?_
  unfold Builtin.«sorted»
  refine wpAny_bind (m := checkCount "sorted" 1 1 _) (wpAny_pure ?_)
  refine wpAny_bind (collect_set (A := A.in1) hh ⟨o, ho, hex.1, hd⟩ hf hb hr hl fun s1 vs k1 hz g1 o1 pm => ?_)
  have small : vs.length ≤ sizeLine := by
    rw [pm.length_eq, List.length_map, Array.length_toList]
    exact fits_of_scanBound hb
  have are : IntsAre vs (vs.map Builtin.Re.reRawOf) := ints_of vs fun v hv => by
    obtain ⟨e, he, q⟩ := List.mem_map.mp (pm.mem_iff.mp hv)
    obtain ⟨k, tk, h1, _⟩ := g e he
    exact ⟨k, tk, q.symm.trans h1⟩
  have pk : (vs.map Builtin.Re.reRawOf).Perm (es.toList.map keyOf) := by
    have q := pm.map Builtin.Re.reRawOf
    rw [List.map_map] at q
    exact q
  refine wpAny_bind (wpAny_newList ?_ small)
  have hoL : (s1.heap.push (seqObj "list" vs.toArray 0)).get? s1.heap.objs.size = some (seqObj "list" vs.toArray 0) := Heap.get?_push_size _ rfl
  have fin : ∀ out : List Value, SrtO.Srtd SrtO.ltIv out → SrtO.Stb SrtO.ltIv out vs → Q (.ref s1.heap.objs.size) { s1 with heap := sortedHeap (s1.heap.push (seqObj "list" vs.toArray 0)) s1.heap.objs.size vs out.toArray } := fun out h1 h2 => by
    obtain ⟨k1', k2', k3'⟩ := SrtO.ints_out are h1 h2
    obtain ⟨c, hc⟩ := sortedHeap_at (vs := vs) (out := out.toArray) hoL
    have pn := k2'.trans pk
    refine h _ _ out.toArray c (out.map SrtO.iv) (fun b u e => ?_) g1 o1 hz hc (by simpa using k1') (L2.lt_of_le_nodup _ k3' (pn.nodup_iff.mpr nd)) (fun k => by rw [pn.mem_iff, ← hm k]) (by rw [k2'.length_eq, List.length_map]; exact small)
    have q := k1 b u e
    have lt := Heap.lt_size q
    show (sortedHeap (s1.heap.push (seqObj "list" vs.toArray 0)) s1.heap.objs.size vs out.toArray).get? b = some u
    rw [sortedHeap_old (Nat.ne_of_lt lt) (by rw [size_push']; exact Nat.lt_succ_of_lt lt)]
    exact Heap.get?_push_of_some _ q
  refine wpAny_bind (wpAny_holding ?_)
  refine wpAny_call_entry slot_list_sort ⟨_, hoL, rfl⟩ entry_list_sort ?_ (args_list_sort _)
  refine SrtO.list_sort_ord SrtO.swo_int hoL small (fun h2 => SrtO.ints_sortable are h2) fun out h1 h2 => ⟨_, rfl, ?_⟩
  exact wpAny_pure ⟨_, rfl, fin out h1 h2⟩
end
/-- set(xs) of a list of ints: L its members -/
def rSetI (K : Frag) (w : World) : List V → Hp → VK → Prop := fun vs H Q => ∃ (a : Addr) (ns : List Int), vs = [.ref a] ∧ (SqL K H a (ns.map V.int) ∨ SqT K H a (ns.map V.int)) ∧ ns.length ≤ 4000 ∧
  ∀ (p : Addr) (L : List Int), H p = none → L.Nodup → (∀ k, k ∈ L ↔ k ∈ ns) → Q (.ref p) (upd H p (SetO w p (fun j => decide (j ∈ ns)) L.length))
def rSortedSetN (w : World) : List V → Hp → VK → Prop := fun vs H Q => ∃ (a : Addr) (S : Int → Bool) (n : Nat), vs = [.ref a] ∧ H a = some (SetO w a S n) ∧
  ∀ (ns : List Int) (p : Addr), ns.Pairwise (· < ·) → (∀ k, k ∈ ns ↔ S k = true) → H p = none → Q (.ref p) (upd H p (.lst (ns.map V.int)))
def rLenSet (w : World) : List V → Hp → VK → Prop := fun vs H Q => ∃ (a : Addr) (S : Int → Bool) (n : Nat), vs = [.ref a] ∧ H a = some (SetO w a S n) ∧ Q (.int (n : Nat)) H
theorem setR_list {w : World} {h : Heap} {a : Addr} {ns : List Int} {n : Nat} (r : SetR w h a (fun j => decide (j ∈ ns)) n) : ∃ L : List Int, L.Nodup ∧ (∀ k, k ∈ L ↔ k ∈ ns) ∧ L.length = n := by
  obtain ⟨_, es, _, _, _, _, _, _, nd, hm, _, _, hn, _⟩ := r
  refine ⟨_, nd, fun k => ?_, ?_⟩
  · have q := hm k
    rw [decide_eq_true_iff] at q
    exact q.symm
  · rw [List.length_map, Array.length_toList]; exact hn
section
variable {X : Cx}
theorem cr_setI (hc : X.calm = true) : CallR X (.type "set") (rSetI X.K X.w) := by
  intro pins s σ H vs us Q I r h
  obtain ⟨a, ns, rfl, hs, hl, q⟩ := h
  rw [Vals.ref1 r]
  have hb : ns.length + 1 < scanBound := by show ns.length + 1 < 4096; omega
  have fin : ∀ (h' : Heap) (tk c : Nat), SetR X.w h' s.heap.objs.size (fun j => decide (j ∈ ns)) c → c ≤ ns.length → (∀ b o, s.heap.get? b = some o → h'.get? b = some o) → EP X pins σ Q (.ref s.heap.objs.size) { s with heap := h', toks := tk } := fun h' tk c R1 _ k => by
    obtain ⟨L, l1, l2, rfl⟩ := setR_list R1
    exact ⟨.ref _, _, I.laid (t' := tk) k (Nat.le_refl _) (setO_new R1), rfl, q _ L (I.hok.fresh (Nat.le_refl _)) l1 l2⟩
  rcases hs with hs | hs
  · obtain ⟨its, rv, pl, hz⟩ := I.list hs
    exact set_of_list ns (I.ok.hd hc) pl.isList (by simpa using rv.ints) hb fin
  · obtain ⟨its, rv, pt, hz⟩ := I.tuple hs
    exact call_set_tupI ns (I.ok.hd hc) pt (by simpa using rv.ints) hb fin
theorem cr_sortedSetN (hc : X.calm = true) : CallR X (.builtin "sorted") (rSortedSetN X.w) := by
  intro pins s σ H vs us Q I r h
  obtain ⟨a, S, n, rfl, ha, q⟩ := h
  have R := setO_get I ha
  rw [Vals.ref1 r]
  refine sorted_of_set R (I.ok.hd hc) fun t p out c ns k g o hp hg hi up mem hl => ?_
  have hn : H p = none := I.hok.fresh hp
  have J : Inv X pins σ (upd H p (.lst (ns.map V.int))) { s with heap := t.heap, gens := t.gens, drawn := t.drawn, toks := t.toks } :=
    I.call (ch := []) (Un.laid k hp hn) (I.hok.laid k hp ⟨by rw [List.length_map]; exact hl, out.toList, c, vals_of_ints hi, hg⟩) (by rw [g]; exact I.bare) (fun _ z => nomatch z)
  have e : t = { s with heap := t.heap, gens := t.gens, drawn := t.drawn, toks := t.toks } := by
    cases t
    cases s
    cases o
    rfl
  rw [e]
  exact ⟨.ref p, _, J, rfl, q ns p up mem hn⟩
theorem cr_lenSet : CallR X (.builtin "len") (rLenSet X.w) := by
  intro pins s σ H vs us Q I r h
  obtain ⟨a, S, n, rfl, ha, q⟩ := h
  obtain ⟨o, es, ep, t, ho, hex, hd, _, _, _, hb, hf, hn, _⟩ := setO_get I ha
  rw [Vals.ref1 r]
  have hb2 : es.size < 4096 := hb
  exact call_len_set ho hex hd hf (by omega) ⟨.int (n : Nat), H, I.tok _, ⟨_, by rw [← hn]⟩, q⟩
end
section
variable {K : Frag} {w : World} {B H : Hp} {Lw : List (Addr × HO)} {a : Addr} {ns : List Int} {Q : VK}
theorem a_setI (O : Own B Lw H) (hs : SqL K H a (ns.map V.int) ∨ SqT K H a (ns.map V.int)) (hl : ns.length ≤ 4000)
    (q : ∀ (p : Addr) (L : List Int) H', L.Nodup → (∀ k, k ∈ L ↔ k ∈ ns) → Own B ((p, SetO w p (fun j => decide (j ∈ ns)) L.length) :: Lw) H' → Q (.ref p) H') : rSetI K w [V.ref a] H Q :=
  ⟨a, ns, rfl, hs, hl, fun p L hp h1 h2 => q p L _ h1 h2 (O.new hp)⟩
theorem a_sortedSet {S : Int → Bool} {n : Nat} (O : Own B Lw H) (i : Nat) (hi : Lw[i]? = some (a, SetO w a S n))
    (q : ∀ (ms : List Int) (p : Addr) H', ms.Pairwise (· < ·) → (∀ k, k ∈ ms ↔ S k = true) → Own B ((p, .lst (ms.map V.int)) :: Lw) H' → Q (.ref p) H') : rSortedSetN w [V.ref a] H Q :=
  ⟨a, S, n, rfl, O.get i hi, fun ms p h1 h2 hp => q ms p _ h1 h2 (O.new hp)⟩
theorem a_lenSet {S : Int → Bool} {n : Nat} (O : Own B Lw H) (i : Nat) (hi : Lw[i]? = some (a, SetO w a S n)) (q : Q (.int (n : Nat)) H) : rLenSet w [V.ref a] H Q := ⟨a, S, n, rfl, O.get i hi, q⟩
end
end R

local macro_rules | `(tactic| walk_at "s") => `(tactic| first
  | with_reducible refine R.a_seq ?_ | with_reducible refine R.a_asg ?_ | with_reducible refine R.a_gname ?_ | ((with_reducible refine' R.a_var ?h1 ?h2); (case h1 => rfl)) | with_reducible refine R.a_c ?_
  | with_reducible refine R.a_op ?_ | with_reducible refine R.a_un ?_ | with_reducible refine R.a_neg ?_ | with_reducible refine R.a_drop ?_ | with_reducible refine R.a_ret ?_ | with_reducible refine R.a_retN ?_
  | with_reducible refine R.a_test ?_ | with_reducible refine R.a_tB ?_ | with_reducible refine R.a_bk ?_ | with_reducible refine R.a_and ?_ | with_reducible refine R.a_or ?_ | with_reducible refine R.a_not ?_
  | with_reducible refine R.a_andV ?_ | with_reducible refine R.a_orV ?_ | with_reducible refine R.a_notV ?_ | with_reducible refine R.a_bv ?_ | with_reducible refine R.a_ifE ?_
  | with_reducible refine R.a_nil ?_ | with_reducible refine R.a_cons ?_ | with_reducible refine R.a_tup ?_ | with_reducible refine R.a_lst ?_ | with_reducible refine R.a_cb ?_ | with_reducible refine R.a_call ?_ | with_reducible refine R.a_chain ?_
  | with_reducible refine R.a_sl ?_ | with_reducible refine R.a_npart ?_ | with_reducible refine R.a_part ?_ | with_reducible refine R.a_ik ?_ | with_reducible refine R.a_gsub ?_ | with_reducible refine R.a_bm ?_ | with_reducible refine R.a_bm0 ?_ | with_reducible refine R.a_par ?_ | with_reducible refine R.a_par2 ?_
  | with_reducible refine R.a_for ?_ | with_reducible refine R.a_rev ?_ | with_reducible refine R.a_iL ?_ | with_reducible refine R.a_iT ?_ | with_reducible refine R.a_enum ?_ | with_reducible refine R.a_lc ?_ | with_reducible refine R.a_rng1 ?_ | with_reducible refine R.a_rng2 ?_ | with_reducible refine R.a_next ?_ | with_reducible refine R.a_yes ?_ | with_reducible refine R.a_gcons ?_ | with_reducible refine R.a_gnil ?_
  | ((with_reducible refine R.a_rng1' ?h1 ?h2 ?h3); (case h1 => omega); (case h2 => omega)) | ((with_reducible refine R.a_rng2' ?h1 ?h2); (case h1 => omega))
  | with_reducible refine R.a_I0 ?_ | with_reducible refine R.a_eqI ?_ | with_reducible refine R.a_neI ?_ | with_reducible refine R.a_isN1 ?_ | with_reducible refine R.a_notN1 ?_
  | ((with_reducible refine R.a_isN0 ?h1 ?h2); (case h1 => (intro z; cases z))) | ((with_reducible refine R.a_notN0 ?h1 ?h2); (case h1 => (intro z; cases z)))
  | with_reducible refine R.a_isiI ?_ | with_reducible refine R.a_isiB ?_
  | ((with_reducible refine R.a_I ?h1 ?h2); (case h1 => first | omega | exact R.mx_l (by omega) (by omega) | exact R.mx_r (by omega) (by omega) | exact R.divW (by omega) (by omega)))
  | with_reducible refine R.a_tt ?_ | with_reducible refine R.a_ff ?_ | with_reducible refine R.a_nt ?_ | with_reducible refine R.a_nf ?_)
-- a test whose answer is known
local macro_rules | `(tactic| walk_at "k") => `(tactic| first
  | ((with_reducible refine R.a_itT ?h1 ?h2); (case h1 => first | assumption | omega)) | ((with_reducible refine R.a_itF ?h1 ?h2); (case h1 => first | assumption | omega))
  | ((with_reducible refine R.a_niT ?h1 ?h2); (case h1 => first | assumption | omega)) | ((with_reducible refine R.a_niF ?h1 ?h2); (case h1 => first | assumption | omega)))
local macro_rules | `(tactic| walk_at "k") => `(tactic| first
  | ((with_reducible refine R.a_cT ?h1 ?h2 ?h3); (case h1 => first | assumption | omega); (case h2 => first | assumption | omega))
  | ((with_reducible refine R.a_ncT ?h1 ?h2 ?h3); (case h1 => first | assumption | omega); (case h2 => first | assumption | omega)))
local macro_rules | `(tactic| walk_at "c") => `(tactic| fail)
local macro_rules | `(tactic| walk_at "sq") => `(tactic| first | assumption | (refine' R.Own.sq ?o 0 ?e; (case o => assumption); (case e => rfl)) | (refine' R.Own.sq ?o 1 ?e; (case o => assumption); (case e => rfl)) | (refine' R.Own.sq ?o 2 ?e; (case o => assumption); (case e => rfl)) | (refine' R.Own.sq ?o 3 ?e; (case o => assumption); (case e => rfl)) | (refine' R.Own.sq ?o 4 ?e; (case o => assumption); (case e => rfl)) | (refine' R.Own.sq ?o 5 ?e; (case o => assumption); (case e => rfl)) | (refine' R.Own.sq ?o 6 ?e; (case o => assumption); (case e => rfl)) | (refine' R.Own.sq ?o 7 ?e; (case o => assumption); (case e => rfl)) | (refine' R.Own.sq ?o 8 ?e; (case o => assumption); (case e => rfl)) | (refine' R.Own.sq ?o 9 ?e; (case o => assumption); (case e => rfl)) | (refine' R.Own.seq ?o ?e; (case o => assumption); (case e => assumption)))
local macro_rules | `(tactic| walk_at "tq") => `(tactic| first | assumption | (refine' R.Own.tq ?o 0 ?e; (case o => assumption); (case e => rfl)) | (refine' R.Own.tq ?o 1 ?e; (case o => assumption); (case e => rfl)) | (refine' R.Own.tq ?o 2 ?e; (case o => assumption); (case e => rfl)) | (refine' R.Own.tq ?o 3 ?e; (case o => assumption); (case e => rfl)) | (refine' R.Own.tq ?o 4 ?e; (case o => assumption); (case e => rfl)) | (refine' R.Own.tq ?o 5 ?e; (case o => assumption); (case e => rfl)) | (refine' R.Own.tq ?o 6 ?e; (case o => assumption); (case e => rfl)) | (refine' R.Own.tq ?o 7 ?e; (case o => assumption); (case e => rfl)) | (refine' R.Own.tq ?o 8 ?e; (case o => assumption); (case e => rfl)) | (refine' R.Own.tq ?o 9 ?e; (case o => assumption); (case e => rfl)) | (refine' R.Own.tup ?o ?e; (case o => assumption); (case e => assumption)))
local macro_rules | `(tactic| walk_at "c") => `(tactic| first
  | ((with_reducible refine' R.a_ixL ?s ?a ?q); (case s => walk_at "sq"); (case a => rfl))
  | ((with_reducible refine' R.a_ixT ?s ?a ?q); (case s => walk_at "tq"); (case a => rfl))
  | ((with_reducible refine' R.a_gtup ?k1 ?k2 ?k3); (case k1 => walk_at "tq"); (case k2 => rfl))
  | with_reducible refine R.a_int1 ?_ | with_reducible refine R.a_abs ?_
  | ((with_reducible refine' R.a_len ?k1 ?k2); (case k1 => first | (refine Or.inl ?_; walk_at "sq") | (refine Or.inr ?_; walk_at "tq")))
  | ((with_reducible refine' R.a_pow (k := 18) ?n ?k ?m ?q); (case n => rfl); (case k => decide); (case m => decide)) | ((with_reducible refine' R.a_pow (k := 40) ?n ?k ?m ?q); (case n => rfl); (case k => decide); (case m => decide)) | ((with_reducible refine' R.a_pow (k := 6) ?n ?k ?m ?q); (case n => rfl); (case k => decide); (case m => decide)) | ((with_reducible refine' R.a_pow (k := 20) ?n ?k ?m ?q); (case n => rfl); (case k => decide); (case m => decide)) | ((with_reducible refine' R.a_pow (k := 30) ?n ?k ?m ?q); (case n => rfl); (case k => decide); (case m => decide)) | ((with_reducible refine' R.a_pow (k := 39) ?n ?k ?m ?q); (case n => rfl); (case k => decide); (case m => decide))
  | ((with_reducible refine' R.a_setL ?k1 0 ?k2 ?k3 ?k4); (case k1 => assumption); (case k2 => rfl); (case k3 => rfl); intro H' O') | ((with_reducible refine' R.a_setL ?k1 1 ?k2 ?k3 ?k4); (case k1 => assumption); (case k2 => rfl); (case k3 => rfl); intro H' O') | ((with_reducible refine' R.a_setL ?k1 2 ?k2 ?k3 ?k4); (case k1 => assumption); (case k2 => rfl); (case k3 => rfl); intro H' O') | ((with_reducible refine' R.a_setL ?k1 3 ?k2 ?k3 ?k4); (case k1 => assumption); (case k2 => rfl); (case k3 => rfl); intro H' O') | ((with_reducible refine' R.a_setL ?k1 4 ?k2 ?k3 ?k4); (case k1 => assumption); (case k2 => rfl); (case k3 => rfl); intro H' O') | ((with_reducible refine' R.a_setL ?k1 5 ?k2 ?k3 ?k4); (case k1 => assumption); (case k2 => rfl); (case k3 => rfl); intro H' O') | ((with_reducible refine' R.a_setL ?k1 6 ?k2 ?k3 ?k4); (case k1 => assumption); (case k2 => rfl); (case k3 => rfl); intro H' O') | ((with_reducible refine' R.a_setL ?k1 7 ?k2 ?k3 ?k4); (case k1 => assumption); (case k2 => rfl); (case k3 => rfl); intro H' O') | ((with_reducible refine' R.a_setL ?k1 8 ?k2 ?k3 ?k4); (case k1 => assumption); (case k2 => rfl); (case k3 => rfl); intro H' O') | ((with_reducible refine' R.a_setL ?k1 9 ?k2 ?k3 ?k4); (case k1 => assumption); (case k2 => rfl); (case k3 => rfl); intro H' O'))
local macro_rules | `(tactic| walk_at "app") => `(tactic| first | ((with_reducible refine' R.a_app ?k1 0 ?k2 ?k3 ?k4); (case k1 => assumption); (case k2 => rfl)) | ((with_reducible refine' R.a_app ?k1 1 ?k2 ?k3 ?k4); (case k1 => assumption); (case k2 => rfl)) | ((with_reducible refine' R.a_app ?k1 2 ?k2 ?k3 ?k4); (case k1 => assumption); (case k2 => rfl)) | ((with_reducible refine' R.a_app ?k1 3 ?k2 ?k3 ?k4); (case k1 => assumption); (case k2 => rfl)) | ((with_reducible refine' R.a_app ?k1 4 ?k2 ?k3 ?k4); (case k1 => assumption); (case k2 => rfl)) | ((with_reducible refine' R.a_app ?k1 5 ?k2 ?k3 ?k4); (case k1 => assumption); (case k2 => rfl)))
local macro_rules | `(tactic| walk_at "mkL") => `(tactic| ((with_reducible refine' R.a_mkL ?k1 ?k2 ?k3); (case k1 => assumption); (case k2 => first | exact Nat.zero_le _ | (simp only [List.length_cons, List.length_nil, List.length_map]; omega))))
local macro_rules | `(tactic| walk_at "mkT") => `(tactic| ((with_reducible refine' R.a_mkT ?k1 ?k2 ?k3); (case k1 => assumption); (case k2 => first | exact Nat.zero_le _ | (simp only [List.length_cons, List.length_nil, List.length_map]; omega))))
local macro_rules | `(tactic| walk_at "h") => `(tactic| repeat (first | walk_at "s" | walk_at "k" | walk_at "c"))
local macro_rules | `(tactic| walk_at "g") => `(tactic| repeat (first | walk_at "s" | walk_at "k" | walk_at "c" | with_reducible refine R.a_if ?_))
local macro_rules | `(tactic| walk_at "s") => `(tactic| first | with_reducible refine R.a_fld ?_ | with_reducible refine R.a_sfld ?_ | with_reducible refine R.a_make ?_)
local macro_rules | `(tactic| walk_at "c") => `(tactic| ((with_reducible refine' R.a_glst ?k1 ?k2 ?k3); (case k1 => walk_at "sq"); (case k2 => rfl)))
local macro_rules | `(tactic| walk_at "s") => `(tactic| first | with_reducible refine R.a_neB ?_ | with_reducible refine R.a_eqB ?_ | with_reducible refine R.a_neO ?_ | with_reducible refine R.a_isO1 ?_ | with_reducible refine R.a_isO0 ?_ | with_reducible refine R.a_notO1 ?_ | with_reducible refine R.a_notO0 ?_)
local macro_rules | `(tactic| walk_at "s") => `(tactic| first | with_reducible refine R.a_par3 ?_ | with_reducible refine R.a_par33 ?_)

namespace Toy
open PySem PySem.Spec PyProof.Rows L2 R
open PySem.W (Frag)
def topS (i : Nat) : Stmt := PySem.Challenge.pw_resttricks_k05_whole_tricks.main.body.getD i (.Pass ⟨0, 0, 0, 0⟩)
abbrev s_is_from : Stmt := (topS 11)
abbrev N_is_from : List Str := ["value", "low", "high"]
abbrev p_is_from : List Str := ["value", "low", "high"]
theorem sc_is_from : FnScope N_is_from p_is_from (defScope s_is_from) := ⟨rfl, rfl, rfl, by decide +kernel, rfl, by decide +kernel, by decide +kernel⟩
abbrev s_need_base : Stmt := (topS 12)
abbrev N_need_base : List Str := ["base"]
abbrev p_need_base : List Str := ["base"]
theorem sc_need_base : FnScope N_need_base p_need_base (defScope s_need_base) := ⟨rfl, rfl, rfl, by decide +kernel, rfl, by decide +kernel, by decide +kernel⟩
abbrev s_need_number : Stmt := (topS 13)
abbrev N_need_number : List Str := ["n"]
abbrev p_need_number : List Str := ["n"]
theorem sc_need_number : FnScope N_need_number p_need_number (defScope s_need_number) := ⟨rfl, rfl, rfl, by decide +kernel, rfl, by decide +kernel, by decide +kernel⟩
abbrev s_power : Stmt := (topS 14)
abbrev N_power : List Str := ["base", "many", "found", "turn"]
abbrev p_power : List Str := ["base", "many"]
theorem sc_power : FnScope N_power p_power (defScope s_power) := ⟨rfl, rfl, rfl, by decide +kernel, rfl, by decide +kernel, by decide +kernel⟩
abbrev s_Trick_init : Stmt := (inClass (topS 19) 0)
abbrev N_Trick_init : List Str := ["self", "base", "take", "times"]
abbrev p_Trick_init : List Str := ["self", "base", "take", "times"]
theorem sc_Trick_init : FnScope N_Trick_init p_Trick_init (defScope s_Trick_init) := ⟨rfl, rfl, rfl, by decide +kernel, rfl, by decide +kernel, by decide +kernel⟩
abbrev s_need_trick : Stmt := (topS 20)
abbrev N_need_trick : List Str := ["trick"]
abbrev p_need_trick : List Str := ["trick"]
theorem sc_need_trick : FnScope N_need_trick p_need_trick (defScope s_need_trick) := ⟨rfl, rfl, rfl, by decide +kernel, rfl, by decide +kernel, by decide +kernel⟩
abbrev s_behind : Stmt := (topS 21)
abbrev N_behind : List Str := ["trick", "n"]
abbrev p_behind : List Str := ["trick", "n"]
theorem sc_behind : FnScope N_behind p_behind (defScope s_behind) := ⟨rfl, rfl, rfl, by decide +kernel, rfl, by decide +kernel, by decide +kernel⟩
abbrev s_done : Stmt := (topS 22)
abbrev N_done : List Str := ["trick", "n"]
abbrev p_done : List Str := ["trick", "n"]
theorem sc_done : FnScope N_done p_done (defScope s_done) := ⟨rfl, rfl, rfl, by decide +kernel, rfl, by decide +kernel, by decide +kernel⟩
abbrev s_trail : Stmt := (topS 23)
abbrev N_trail : List Str := ["trick", "n", "rounds", "found", "turn"]
abbrev p_trail : List Str := ["trick", "n", "rounds"]
theorem sc_trail : FnScope N_trail p_trail (defScope s_trail) := ⟨rfl, rfl, rfl, by decide +kernel, rfl, by decide +kernel, by decide +kernel⟩
abbrev s_ahead : Stmt := (topS 24)
abbrev N_ahead : List Str := ["trick", "n", "rests", "rest", "whole"]
abbrev p_ahead : List Str := ["trick", "n"]
theorem sc_ahead : FnScope N_ahead p_ahead (defScope s_ahead) := ⟨rfl, rfl, rfl, by decide +kernel, rfl, by decide +kernel, by decide +kernel⟩
abbrev s_law_taken : Stmt := (topS 26)
abbrev N_law_taken : List Str := ["_law_row", "_law_many", "_law_found", "_law_cell"]
abbrev p_law_taken : List Str := ["_law_row", "_law_many"]
theorem sc_law_taken : FnScope N_law_taken p_law_taken (defScope s_law_taken) := ⟨rfl, rfl, rfl, by decide +kernel, rfl, by decide +kernel, by decide +kernel⟩
abbrev s_law_power : Stmt := (topS 27)
abbrev N_law_power : List Str := ["_law_base", "_law_many", "_law_found", "_law_turn"]
abbrev p_law_power : List Str := ["_law_base", "_law_many"]
theorem sc_law_power : FnScope N_law_power p_law_power (defScope s_law_power) := ⟨rfl, rfl, rfl, by decide +kernel, rfl, by decide +kernel, by decide +kernel⟩
abbrev s_law_trick : Stmt := (topS 28)
abbrev N_law_trick : List Str := ["_law_row", "_law_small", "_law_base", "_law_take", "_law_times", "_law_d", "_law_some", "_law_one"]
abbrev p_law_trick : List Str := ["_law_row", "_law_small"]
theorem sc_law_trick : FnScope N_law_trick p_law_trick (defScope s_law_trick) := ⟨rfl, rfl, rfl, by decide +kernel, rfl, by decide +kernel, by decide +kernel⟩
abbrev s_law_behind : Stmt := (topS 29)
abbrev N_law_behind : List Str := ["_law_told", "_law_n", "_law_base", "_law_take", "_law_times", "_law_block", "_law_rest"]
abbrev p_law_behind : List Str := ["_law_told", "_law_n"]
theorem sc_law_behind : FnScope N_law_behind p_law_behind (defScope s_law_behind) := ⟨rfl, rfl, rfl, by decide +kernel, rfl, by decide +kernel, by decide +kernel⟩
abbrev s_law_number : Stmt := (topS 30)
abbrev N_law_number : List Str := ["_law_row", "_law_size", "_law_n"]
abbrev p_law_number : List Str := ["_law_row"]
theorem sc_law_number : FnScope N_law_number p_law_number (defScope s_law_number) := ⟨rfl, rfl, rfl, by decide +kernel, rfl, by decide +kernel, by decide +kernel⟩
abbrev s_law : Stmt := (topS 31)
abbrev N_law : List Str := ["_law_script", "_law_line", "_law_turn", "_law_told", "_law_n", "_law_trick_here", "_law_many", "_law_due", "_law_here", "_law_again", "_law_some", "_law_other", "_law_one"]
abbrev p_law : List Str := ["_law_script"]
theorem sc_law : FnScope N_law p_law (defScope s_law) := ⟨rfl, rfl, rfl, by decide +kernel, rfl, by decide +kernel, by decide +kernel⟩
structure Adr where
  f_is_from : Addr
  d_is_from : FuncData
  f_need_base : Addr
  d_need_base : FuncData
  f_need_number : Addr
  d_need_number : FuncData
  f_power : Addr
  d_power : FuncData
  f_Trick_init : Addr
  d_Trick_init : FuncData
  f_need_trick : Addr
  d_need_trick : FuncData
  f_behind : Addr
  d_behind : FuncData
  f_done : Addr
  d_done : FuncData
  f_trail : Addr
  d_trail : FuncData
  f_ahead : Addr
  d_ahead : FuncData
  f_law_taken : Addr
  d_law_taken : FuncData
  f_law_power : Addr
  d_law_power : FuncData
  f_law_trick : Addr
  d_law_trick : FuncData
  f_law_behind : Addr
  d_law_behind : FuncData
  f_law_number : Addr
  d_law_number : FuncData
  f_law : Addr
  d_law : FuncData
  c_Trick : Addr
structure Txt (K : Frag) (mg : Str → Option Value) (Z : Adr) : Prop where
  F_is_from : Fun K "is_from" "is_from" s_is_from Z.f_is_from Z.d_is_from
  b_is_from : Binds K Z.d_is_from p_is_from []
  g_is_from : mg "is_from" = some (.ref Z.f_is_from)
  F_need_base : Fun K "need_base" "need_base" s_need_base Z.f_need_base Z.d_need_base
  b_need_base : Binds K Z.d_need_base p_need_base []
  g_need_base : mg "need_base" = some (.ref Z.f_need_base)
  F_need_number : Fun K "need_number" "need_number" s_need_number Z.f_need_number Z.d_need_number
  b_need_number : Binds K Z.d_need_number p_need_number []
  g_need_number : mg "need_number" = some (.ref Z.f_need_number)
  F_power : Fun K "power" "power" s_power Z.f_power Z.d_power
  b_power : Binds K Z.d_power p_power []
  g_power : mg "power" = some (.ref Z.f_power)
  F_Trick_init : Fun K "__init__" "Trick.__init__" s_Trick_init Z.f_Trick_init Z.d_Trick_init
  b_Trick_init : Binds K Z.d_Trick_init p_Trick_init []
  F_need_trick : Fun K "need_trick" "need_trick" s_need_trick Z.f_need_trick Z.d_need_trick
  b_need_trick : Binds K Z.d_need_trick p_need_trick []
  g_need_trick : mg "need_trick" = some (.ref Z.f_need_trick)
  F_behind : Fun K "behind" "behind" s_behind Z.f_behind Z.d_behind
  b_behind : Binds K Z.d_behind p_behind []
  g_behind : mg "behind" = some (.ref Z.f_behind)
  F_done : Fun K "done" "done" s_done Z.f_done Z.d_done
  b_done : Binds K Z.d_done p_done []
  g_done : mg "done" = some (.ref Z.f_done)
  F_trail : Fun K "trail" "trail" s_trail Z.f_trail Z.d_trail
  b_trail : Binds K Z.d_trail p_trail []
  g_trail : mg "trail" = some (.ref Z.f_trail)
  F_ahead : Fun K "ahead" "ahead" s_ahead Z.f_ahead Z.d_ahead
  b_ahead : Binds K Z.d_ahead p_ahead []
  g_ahead : mg "ahead" = some (.ref Z.f_ahead)
  F_law_taken : Fun K "_law_taken" "_law_taken" s_law_taken Z.f_law_taken Z.d_law_taken
  b_law_taken : Binds K Z.d_law_taken p_law_taken []
  g_law_taken : mg "_law_taken" = some (.ref Z.f_law_taken)
  F_law_power : Fun K "_law_power" "_law_power" s_law_power Z.f_law_power Z.d_law_power
  b_law_power : Binds K Z.d_law_power p_law_power []
  g_law_power : mg "_law_power" = some (.ref Z.f_law_power)
  F_law_trick : Fun K "_law_trick" "_law_trick" s_law_trick Z.f_law_trick Z.d_law_trick
  b_law_trick : Binds K Z.d_law_trick p_law_trick []
  g_law_trick : mg "_law_trick" = some (.ref Z.f_law_trick)
  F_law_behind : Fun K "_law_behind" "_law_behind" s_law_behind Z.f_law_behind Z.d_law_behind
  b_law_behind : Binds K Z.d_law_behind p_law_behind []
  g_law_behind : mg "_law_behind" = some (.ref Z.f_law_behind)
  F_law_number : Fun K "_law_number" "_law_number" s_law_number Z.f_law_number Z.d_law_number
  b_law_number : Binds K Z.d_law_number p_law_number []
  g_law_number : mg "_law_number" = some (.ref Z.f_law_number)
  F_law : Fun K "law" "law" s_law Z.f_law Z.d_law
  b_law : Binds K Z.d_law p_law []
  g_law : mg "law" = some (.ref Z.f_law)
  g_Trick : mg "Trick" = some (.ref Z.c_Trick)
  cl_Trick : Cls K Z.c_Trick
  is_Trick : C8.InsC K Z.c_Trick
  M_Trick : Mk K Z.c_Trick Z.f_Trick_init
  nf_Trick_basis : NoAttr K Z.c_Trick "basis"
  nf_Trick_many : NoAttr K Z.c_Trick "many"
  nf_Trick_factor : NoAttr K Z.c_Trick "factor"
  nf_Trick_block : NoAttr K Z.c_Trick "block"
  v_LEAST_BASE : ∃ t, mg "LEAST_BASE" = some (.int (2) t)
  v_MOST_BASE : ∃ t, mg "MOST_BASE" = some (.int (16) t)
  v_MOST_NUMBER : ∃ t, mg "MOST_NUMBER" = some (.int (10000000000000000000000000000000000000000) t)
  v_MOST_TAKE : ∃ t, mg "MOST_TAKE" = some (.int (2) t)
  v_MOST_TIMES : ∃ t, mg "MOST_TIMES" = some (.int (100) t)
  v_MOST_ROUNDS : ∃ t, mg "MOST_ROUNDS" = some (.int (200) t)
  n_isinstance : mg "isinstance" = none
  n_int : mg "int" = none
  n_bool : mg "bool" = none
  n_range : mg "range" = none
  n_sorted : mg "sorted" = none
  n_len : mg "len" = none
  n_abs : mg "abs" = none
  n_all : mg "all" = none
  n_set : mg "set" = none
section
variable {P : Program} {w : World} {K : Frag} {mg : Str → Option Value} {base : Heap} {Z : Adr}

/-! ### is_from -/
def sp_is_from (K : Frag) : Sp := fun vs H Q _ => ∃ i lo hi : Int, vs = [.int i, .int lo, .int hi] ∧ Q (.bl (decide (lo ≤ i) && decide (i ≤ hi))) H
theorem use_is_from {K : Frag} {i lo hi : Int} {H : Hp} {Q : VK} {E : XK} (h : Q (.bl (decide (lo ≤ i) && decide (i ≤ hi))) H) : sp_is_from K ([.int i, .int lo, .int hi] ++ []) H Q E := ⟨_, _, _, rfl, h⟩
theorem ok_is_from (T : Txt K mg Z) : FnOk P w K mg base CX0 1 Z.f_is_from Z.d_is_from p_is_from (sp_is_from K) := by
  refine T.F_is_from.ok sc_is_from (fun vs H Q E h => ?_) (fun cdv A outer s H vs Q E hr h => ?_)
  · obtain ⟨_, _, _, rfl, _⟩ := h; rfl
  · obtain ⟨i, lo, hi, rfl, h⟩ := h
    refine ⟨_, (pss_one (ps_ret (pe_and (pe_callB (r := rIsi K) call_isi (by rfl) T.n_isinstance boot_isinstance (pa_cons (pv 0) (pa_cons (pe_bltn (v := .ty "int") (by rfl) T.n_int boot_int rfl) pa_nil))) (pe_and (pe_not (pe_callB (r := rIsi K) call_isi (by rfl) T.n_isinstance boot_isinstance (pa_cons (pv 0) (pa_cons (pe_bltn (v := .ty "bool") (by rfl) T.n_bool boot_bool rfl) pa_nil)))) (pe_one (pe_chain op_le op_le (pv 1) (pv 0) (pv 2))))))), ?_⟩
    walk_at "g"
    refine a_it2 (fun c => ?_) (fun c => ?_)
    · walk_at "g"
      rw [decide_eq_true c, Bool.true_and] at h; exact h
    · rw [decide_eq_false c] at h; exact h
-- @USE
local macro_rules | `(tactic| walk_at "c") => `(tactic| with_reducible refine use_is_from ?_)

/-! ### need_base -/
def sp_need_base : Sp := fun vs H Q _ => ∃ b : Int, vs = [.int b] ∧ 2 ≤ b ∧ b ≤ 16 ∧ Q .non H
theorem use_need_base {b : Int} {H : Hp} {Q : VK} {E : XK} (h1 : 2 ≤ b) (h2 : b ≤ 16) (h : Q .non H) : sp_need_base ([.int b] ++ []) H Q E := ⟨_, rfl, h1, h2, h⟩
theorem ok_need_base (T : Txt K mg Z) : FnOk P w K mg base CX0 2 Z.f_need_base Z.d_need_base p_need_base sp_need_base := by
  refine T.F_need_base.ok sc_need_base (fun vs H Q E h => ?_) (fun cdv A outer s H vs Q E hr h => ?_)
  · obtain ⟨_, rfl, _⟩ := h; rfl
  · obtain ⟨b, rfl, h1, h2, h⟩ := h
    refine ⟨_, (pss_one (ps_if (pt_not (pt_val (pe_call (ok_is_from T) (hr.mono (by decide)) rfl T.g_is_from T.F_is_from.kp T.b_is_from .nil pass0 (pa_cons (pv 0) (pa_cons (pe_globI rfl T.v_LEAST_BASE) (pa_cons (pe_globI rfl T.v_MOST_BASE) pa_nil)))))) (pss_one ps_never) pss_nil)), ?_⟩
    walk_at "g"
    exact h
-- @USE
local macro_rules | `(tactic| walk_at "c") => `(tactic| ((with_reducible refine use_need_base ?h1 ?h2 ?h3); (case h1 => omega); (case h2 => omega)))

/-! ### need_number -/
def sp_need_number : Sp := fun vs H Q _ => ∃ n : Int, vs = [.int n] ∧ -(10 ^ 40) ≤ n ∧ n ≤ 10 ^ 40 ∧ Q .non H
theorem use_need_number {n : Int} {H : Hp} {Q : VK} {E : XK} (h1 : -(10 ^ 40) ≤ n) (h2 : n ≤ 10 ^ 40) (h : Q .non H) : sp_need_number ([.int n] ++ []) H Q E := ⟨_, rfl, h1, h2, h⟩
theorem ok_need_number (T : Txt K mg Z) : FnOk P w K mg base CX0 2 Z.f_need_number Z.d_need_number p_need_number sp_need_number := by
  refine T.F_need_number.ok sc_need_number (fun vs H Q E h => ?_) (fun cdv A outer s H vs Q E hr h => ?_)
  · obtain ⟨_, rfl, _⟩ := h; rfl
  · obtain ⟨n, rfl, h1, h2, h⟩ := h
    refine ⟨_, (pss_one (ps_if (pt_not (pt_val (pe_call (ok_is_from T) (hr.mono (by decide)) rfl T.g_is_from T.F_is_from.kp T.b_is_from .nil pass0 (pa_cons (pv 0) (pa_cons (pe_un un_neg (pe_globI rfl T.v_MOST_NUMBER)) (pa_cons (pe_globI rfl T.v_MOST_NUMBER) pa_nil)))))) (pss_one ps_never) pss_nil)), ?_⟩
    walk_at "g"
    exact h
-- @USE
local macro_rules | `(tactic| walk_at "c") => `(tactic| ((with_reducible refine use_need_number ?h1 ?h2 ?h3); (case h1 => omega); (case h2 => omega)))

/-! ### power -/
def sp_power : Sp := fun vs H Q _ => ∃ b m : Int, vs = [.int b, .int m] ∧ -(2 ^ 62) ≤ m ∧ m < 2 ^ 62 ∧ -(2 ^ 64) < b ∧ b < 2 ^ 64 ∧ Q (.int (b ^ m.toNat)) H
theorem use_power {b m : Int} {H : Hp} {Q : VK} {E : XK} (h1 : -(2 ^ 62) ≤ m ∧ m < 2 ^ 62 ∧ -(2 ^ 64) < b ∧ b < 2 ^ 64) (h : Q (.int (b ^ m.toNat)) H) : sp_power ([.int b, .int m] ++ []) H Q E := ⟨_, _, rfl, h1.1, h1.2.1, h1.2.2.1, h1.2.2.2, h⟩
theorem ok_power (T : Txt K mg Z) : FnOk P w K mg base CX0 1 Z.f_power Z.d_power p_power sp_power := by
  refine T.F_power.ok sc_power (fun vs H Q E h => ?_) (fun cdv A outer s H vs Q E hr h => ?_)
  · obtain ⟨_, _, rfl, _⟩ := h; rfl
  · obtain ⟨b, m, rfl, h1, h2, h3, h4, h⟩ := h
    refine ⟨_, (pss_cons (ps_set (i := 2) sc_power.nd rfl (Or.inl rfl) pe_int)
    (pss_cons (ps_for PassesOwn.never rfl (pi_range1 rfl T.n_range (pa_cons (pv 1) pa_nil)) (pg_name (i := 3) sc_power.nd rfl (Or.inl rfl))
    (pss_one (ps_set (i := 2) sc_power.nd rfl (Or.inl rfl) (pe_op op_mulX (pv 2) (pv 0)))))
    (pss_one (ps_ret (pv 2))))), ?_⟩
    walk_at "g"
    refine for_range (fun i σ H' => H' = H ∧ ∃ v, σ = [some (.int b), some (.int m), some (.int (b ^ i)), v]) ⟨rfl, none, by rw [Int.pow_zero]; rfl⟩ ?_ ?_
    · rintro i σ H' hi ⟨rfl, v, rfl⟩
      walk_at "g"
      exact ⟨rfl, _, by rw [Int.pow_succ]; rfl⟩
    · rintro σ H' ⟨rfl, v, rfl⟩
      walk_at "g"
      exact h
-- @USE
local macro_rules | `(tactic| walk_at "c") => `(tactic| ((with_reducible refine use_power ?h1 ?h2); (case h1 => omega)))

/-! ### Trick_init -/
/-- the fields of a trick -/
def trickF (b k t : Int) : List (Str × V) := [("basis", .int b), ("many", .int k), ("factor", .int t), ("block", .int (b ^ k.toNat))]
def TrickOk (b k t : Int) : Prop := (2 ≤ b ∧ b ≤ 16) ∧ (1 ≤ k ∧ k ≤ 2) ∧ -100 ≤ t ∧ t ≤ 100
def TrickAt (Z : Adr) (H : Hp) (a : Addr) (b k t : Int) : Prop := TrickOk b k t ∧ ∃ dx, H a = some (.ins Z.c_Trick dx (trickF b k t))
theorem TrickAt.up {B H : Hp} {Lw : List (Addr × HO)} {a : Addr} {b k t : Int} (O : Own B Lw H) (h : TrickAt Z B a b k t) : TrickAt Z H a b k t := by
  obtain ⟨h1, dx, h2⟩ := h
  exact ⟨h1, dx, O.st _ _ h2⟩
theorem TrickAt.same {B H : Hp} {a : Addr} {b k t : Int} (s : Same B H) (h : TrickAt Z B a b k t) : TrickAt Z H a b k t := by
  obtain ⟨h1, dx, h2⟩ := h
  exact ⟨h1, dx, s _ _ h2⟩
theorem block_small {b k : Int} (hb : 2 ≤ b ∧ b ≤ 16) (hk : 1 ≤ k ∧ k ≤ 2) : 2 ≤ b ^ k.toNat ∧ b ^ k.toNat ≤ 256 := by
  have e : k = 1 ∨ k = 2 := by omega
  rcases e with rfl | rfl
  · have z : b ^ (1 : Int).toNat = b := by rw [show (1 : Int).toNat = 1 from rfl, Int.pow_succ, Int.pow_zero, Int.one_mul]
    rw [z]; omega
  · have z : b ^ (2 : Int).toNat = b * b := by rw [show (2 : Int).toNat = 2 from rfl, Int.pow_succ, Int.pow_succ, Int.pow_zero, Int.one_mul]
    rw [z]
    have h1 : b * 2 ≤ b * b := Int.mul_le_mul_of_nonneg_left hb.1 (by omega)
    have h2 : b * b ≤ 16 * 16 := Int.mul_le_mul hb.2 hb.2 (by omega) (by omega)
    omega
theorem get_block {H : Hp} {a : Addr} {b k t : Int} {Q : VK} (T : Txt K mg Z) (h : TrickAt Z H a b k t) (q : Q (.int (b ^ k.toNat)) H) : rFld K "block" (.ref a) H Q := by
  obtain ⟨_, dx, h⟩ := h
  refine a_getF h T.cl_Trick T.nf_Trick_block ?_ q
  unfold trickF
  rw [lk_ne (by decide +kernel), lk_ne (by decide +kernel), lk_ne (by decide +kernel), lk_eq]
theorem get_factor {H : Hp} {a : Addr} {b k t : Int} {Q : VK} (T : Txt K mg Z) (h : TrickAt Z H a b k t) (q : Q (.int t) H) : rFld K "factor" (.ref a) H Q := by
  obtain ⟨_, dx, h⟩ := h
  refine a_getF h T.cl_Trick T.nf_Trick_factor ?_ q
  unfold trickF
  rw [lk_ne (by decide +kernel), lk_ne (by decide +kernel), lk_eq]
theorem get_many {H : Hp} {a : Addr} {b k t : Int} {Q : VK} (T : Txt K mg Z) (h : TrickAt Z H a b k t) (q : Q (.int k) H) : rFld K "many" (.ref a) H Q := by
  obtain ⟨_, dx, h⟩ := h
  refine a_getF h T.cl_Trick T.nf_Trick_many ?_ q
  unfold trickF
  rw [lk_ne (by decide +kernel), lk_eq]
theorem get_basis {H : Hp} {a : Addr} {b k t : Int} {Q : VK} (T : Txt K mg Z) (h : TrickAt Z H a b k t) (q : Q (.int b) H) : rFld K "basis" (.ref a) H Q := by
  obtain ⟨_, dx, h⟩ := h
  refine a_getF h T.cl_Trick T.nf_Trick_basis ?_ q
  unfold trickF
  rw [lk_eq]
def sp_Trick_init (C : Addr) : Sp := fun vs H Q _ => ∃ (x dx : Addr) (b k t : Int), vs = [.ref x, .int b, .int k, .int t] ∧ H x = some (.ins C dx []) ∧ TrickOk b k t ∧
  ∀ H', (∀ q v, q ≠ x → H q = some v → H' q = some v) → H' x = some (.ins C dx (trickF b k t)) → Q .non H'
theorem use_Trick {B H : Hp} {Lw : List (Addr × HO)} {b k t : Int} {Q : VK} {E : XK} (O : Own B Lw H) (hk : TrickOk b k t) (h : ∀ x B' H', B x = none → Same B B' → Own B' Lw H' → TrickAt Z B' x b k t → Q (.ref x) H') : NewI Z.c_Trick (sp_Trick_init Z.c_Trick) [] E [.int b, .int k, .int t] H Q := by
  intro x dx hx hdx ne
  have O1 := Own.new (o := .own x) O hdx
  have hx1 : upd H dx (.own x) x = none := by rw [upd_ne ne.symm]; exact hx
  have O2 := Own.new (o := .ins Z.c_Trick dx []) O1 hx1
  refine ⟨x, dx, b, k, t, rfl, upd_same, hk, fun H' k1 h1 => ⟨rfl, ?_⟩⟩
  have O3 : Own B ((x, .ins Z.c_Trick dx (trickF b k t)) :: (dx, .own x) :: Lw) H' := O2.but 0 rfl k1 h1
  exact h x _ H' (O.free hx) (O3.swap.fixS.trans O3.swap.fix.fixS) O3.swap.fix.fix ⟨hk, dx, upd_same⟩
theorem ok_Trick_init (T : Txt K mg Z) : FnOk P w K mg base CX0 3 Z.f_Trick_init Z.d_Trick_init p_Trick_init (sp_Trick_init Z.c_Trick) := by
  refine T.F_Trick_init.ok sc_Trick_init (fun vs H Q E h => ?_) (fun cdv A outer s H vs Q E hr h => ?_)
  · obtain ⟨_, _, _, _, _, rfl, _⟩ := h; rfl
  · obtain ⟨x, dx, b, k, t, rfl, hx, ⟨⟨hb1, hb2⟩, ⟨hk1, hk2⟩, ht1, ht2⟩, h⟩ := h
    have O := Own.refl1 hx
    refine ⟨_, (pss_cons (ps_expr (pe_call (ok_need_base T) (hr.mono (by decide)) rfl T.g_need_base T.F_need_base.kp T.b_need_base .nil pass0 (pa_cons (pv 1) pa_nil)))
    (pss_cons (ps_if (pt_not (pt_val (pe_call (ok_is_from T) (hr.mono (by decide)) rfl T.g_is_from T.F_is_from.kp T.b_is_from .nil pass0 (pa_cons (pv 2) (pa_cons pe_int (pa_cons (pe_globI rfl T.v_MOST_TAKE) pa_nil)))))) (pss_one ps_never) pss_nil)
    (pss_cons (ps_if (pt_not (pt_val (pe_call (ok_is_from T) (hr.mono (by decide)) rfl T.g_is_from T.F_is_from.kp T.b_is_from .nil pass0 (pa_cons (pv 3) (pa_cons (pe_un un_neg (pe_globI rfl T.v_MOST_TIMES)) (pa_cons (pe_globI rfl T.v_MOST_TIMES) pa_nil)))))) (pss_one ps_never) pss_nil)
    (pss_cons (ps_fld (pv 0) (pv 1) rfl)
    (pss_cons (ps_fld (pv 0) (pv 2) rfl)
    (pss_cons (ps_fld (pv 0) (pv 3) rfl)
    (pss_one (ps_fld (pv 0) (pe_call (ok_power T) (hr.mono (by decide)) rfl T.g_power T.F_power.kp T.b_power .nil pass0 (pa_cons (pv 1) (pa_cons (pv 2) pa_nil))) rfl)))))))), ?_⟩
    have n1 : ¬ ("basis" : Str) = "many" := by decide +kernel
    have n2 : ¬ ("basis" : Str) = "factor" := by decide +kernel
    have n3 : ¬ ("many" : Str) = "factor" := by decide +kernel
    have n4 : ¬ ("basis" : Str) = "block" := by decide +kernel
    have n5 : ¬ ("many" : Str) = "block" := by decide +kernel
    have n6 : ¬ ("factor" : Str) = "block" := by decide +kernel
    walk_at "g"
    refine a_setF O 0 rfl T.cl_Trick T.nf_Trick_basis (Nat.lt_of_le_of_lt (Nat.le_refl 0) (by decide)) (fun H1 O => ?_)
    simp only [List.set, put_nil] at O
    walk_at "g"
    refine a_setF O 0 rfl T.cl_Trick T.nf_Trick_many (Nat.lt_of_le_of_lt (Nat.le_refl 1) (by decide)) (fun H2 O => ?_)
    simp only [List.set, put_ne n1, put_nil] at O
    walk_at "g"
    refine a_setF O 0 rfl T.cl_Trick T.nf_Trick_factor (Nat.lt_of_le_of_lt (Nat.le_refl 2) (by decide)) (fun H3 O => ?_)
    simp only [List.set, put_ne n2, put_ne n3, put_nil] at O
    walk_at "g"
    refine a_setF O 0 rfl T.cl_Trick T.nf_Trick_block (Nat.lt_of_le_of_lt (Nat.le_refl 3) (by decide)) (fun H4 O => ?_)
    simp only [List.set, put_ne n4, put_ne n5, put_ne n6, put_nil] at O
    exact h _ (Own.toBut O) (O.get 0 rfl)
-- @USE
local macro_rules | `(tactic| walk_at "tr") => `(tactic| first | assumption | (refine' TrickAt.up ?k1 ?k2; (case k1 => assumption); (case k2 => assumption)))
local macro_rules | `(tactic| walk_at "c") => `(tactic| first
  | ((with_reducible refine' get_block ?k1 ?k2 ?k3); (case k1 => assumption); (case k2 => walk_at "tr"))
  | ((with_reducible refine' get_factor ?k1 ?k2 ?k3); (case k1 => assumption); (case k2 => walk_at "tr"))
  | ((with_reducible refine' get_many ?k1 ?k2 ?k3); (case k1 => assumption); (case k2 => walk_at "tr"))
  | ((with_reducible refine' get_basis ?k1 ?k2 ?k3); (case k1 => assumption); (case k2 => walk_at "tr")))

/-! ### need_trick -/
-- @NEEDS Trick_init
def sp_need_trick (Z : Adr) : Sp := fun vs H Q _ => ∃ (a : Addr) (b k t : Int), vs = [.ref a] ∧ TrickAt Z H a b k t ∧ Q .non H
theorem use_need_trick {a : Addr} {b k t : Int} {H : Hp} {Q : VK} {E : XK} (h1 : TrickAt Z H a b k t) (h : Q .non H) : sp_need_trick Z ([.ref a] ++ []) H Q E := ⟨a, b, k, t, rfl, h1, h⟩
theorem ok_need_trick (T : Txt K mg Z) : FnOk P w K mg base CX0 1 Z.f_need_trick Z.d_need_trick p_need_trick (sp_need_trick Z) := by
  refine T.F_need_trick.ok sc_need_trick (fun vs H Q E h => ?_) (fun cdv A outer s H vs Q E hr h => ?_)
  · obtain ⟨_, _, _, _, rfl, _⟩ := h; rfl
  · obtain ⟨a, b, k, t, rfl, ha, h⟩ := h
    refine ⟨_, (pss_one (ps_if (pt_not (pt_val (pe_callB (r := rIsi K) call_isi (by rfl) T.n_isinstance boot_isinstance (pa_cons (pv 0) (pa_cons (pe_glob rfl T.g_Trick (v := .ref Z.c_Trick) rfl) pa_nil))))) (pss_one ps_never) pss_nil)), ?_⟩
    walk_at "g"
    obtain ⟨_, dx, h2⟩ := ha
    refine ⟨_, _, _, _, true, rfl, .own _, .base (.ins h2 T.is_Trick.cl T.is_Trick.ha T.is_Trick.hn T.is_Trick.htk T.is_Trick.hm), T.is_Trick.me, ?_⟩
    walk_at "g"
    exact h
-- @USE
local macro_rules | `(tactic| walk_at "c") => `(tactic| ((with_reducible refine' use_need_trick ?k1 ?k2); (case k1 => walk_at "tr")))

/-! ### behind -/
-- @NEEDS Trick_init
def sp_behind (Z : Adr) : Sp := fun vs H Q _ => ∃ (a : Addr) (b k t n : Int), vs = [.ref a, .int n] ∧ TrickAt Z H a b k t ∧ Q (.int (beh b k t n)) H
theorem use_behind {a : Addr} {b k t n : Int} {H : Hp} {Q : VK} {E : XK} (h1 : TrickAt Z H a b k t) (h : Q (.int (beh b k t n)) H) : sp_behind Z ([.ref a, .int n] ++ []) H Q E := ⟨a, b, k, t, n, rfl, h1, h⟩
theorem ok_behind (T : Txt K mg Z) : FnOk P w K mg base CX0 1 Z.f_behind Z.d_behind p_behind (sp_behind Z) := by
  refine T.F_behind.ok sc_behind (fun vs H Q E h => ?_) (fun cdv A outer s H vs Q E hr h => ?_)
  · obtain ⟨_, _, _, _, _, rfl, _⟩ := h; rfl
  · obtain ⟨a, b, k, t, n, rfl, ha, h⟩ := h
    have bs := block_small ha.1.1 ha.1.2.1
    have ht := ha.1.2.2
    unfold beh at h
    refine ⟨_, (pss_one (ps_ret (pe_op op_add (pe_op op_fdivW (pv 1) (pe_fld (pv 0) rfl)) (pe_op op_mulX (pe_fld (pv 0) rfl) (pe_op op_mod (pv 1) (pe_fld (pv 0) rfl)))))), ?_⟩
    walk_at "g"
    exact h
-- @USE
local macro_rules | `(tactic| walk_at "c") => `(tactic| ((with_reducible refine' use_behind ?k1 ?k2); (case k1 => walk_at "tr")))

/-! ### done -/
-- @NEEDS Trick_init need_trick need_number behind
def sp_done (Z : Adr) : Sp := fun vs H Q _ => ∃ (a : Addr) (b k t n : Int), vs = [.ref a, .int n] ∧ TrickAt Z H a b k t ∧ -(10 ^ 40) ≤ n ∧ n ≤ 10 ^ 40 ∧ Q (.int (beh b k t n)) H
theorem use_done {a : Addr} {b k t n : Int} {H : Hp} {Q : VK} {E : XK} (h1 : TrickAt Z H a b k t) (h2 : -(10 ^ 40) ≤ n ∧ n ≤ 10 ^ 40) (h : Q (.int (beh b k t n)) H) : sp_done Z ([.ref a, .int n] ++ []) H Q E := ⟨a, b, k, t, n, rfl, h1, h2.1, h2.2, h⟩
theorem ok_done (T : Txt K mg Z) : FnOk P w K mg base CX0 3 Z.f_done Z.d_done p_done (sp_done Z) := by
  refine T.F_done.ok sc_done (fun vs H Q E h => ?_) (fun cdv A outer s H vs Q E hr h => ?_)
  · obtain ⟨_, _, _, _, _, rfl, _⟩ := h; rfl
  · obtain ⟨a, b, k, t, n, rfl, ha, hn1, hn2, h⟩ := h
    refine ⟨_, (pss_cons (ps_expr (pe_call (ok_need_trick T) (hr.mono (by decide)) rfl T.g_need_trick T.F_need_trick.kp T.b_need_trick .nil pass0 (pa_cons (pv 0) pa_nil)))
    (pss_cons (ps_expr (pe_call (ok_need_number T) (hr.mono (by decide)) rfl T.g_need_number T.F_need_number.kp T.b_need_number .nil pass0 (pa_cons (pv 1) pa_nil)))
    (pss_one (ps_ret (pe_call (ok_behind T) (hr.mono (by decide)) rfl T.g_behind T.F_behind.kp T.b_behind .nil pass0 (pa_cons (pv 0) (pa_cons (pv 1) pa_nil))))))), ?_⟩
    walk_at "g"
    exact h

/-! ### trail -/
-- @NEEDS Trick_init need_trick need_number behind
/-- the number i rounds on -/
def itB (b k t n : Int) : Nat → Int
  | 0 => n
  | i + 1 => beh b k t (itB b k t n i)
def trailL (b k t n : Int) : Nat → List Int
  | 0 => [n]
  | i + 1 => trailL b k t n i ++ [itB b k t n (i + 1)]
theorem trailL_len (b k t n : Int) : ∀ i, (trailL b k t n i).length = i + 1
  | 0 => rfl
  | i + 1 => by rw [trailL, List.length_append, trailL_len b k t n i]; rfl
theorem trailL_last (b k t n : Int) : ∀ i, (trailL b k t n i)[i]? = some (itB b k t n i)
  | 0 => rfl
  | i + 1 => by
    rw [trailL, List.getElem?_append_right (by rw [trailL_len]; omega), trailL_len, Nat.sub_self]
    rfl
def sp_trail (Z : Adr) : Sp := fun vs H Q _ => ∃ (a : Addr) (b k t n m : Int), vs = [.ref a, .int n, .int m] ∧ TrickAt Z H a b k t ∧ (-(10 ^ 40) ≤ n ∧ n ≤ 10 ^ 40) ∧ (0 ≤ m ∧ m ≤ 200) ∧
  ∀ p H', Same H H' → H p = none → H' p = some (.lst ((trailL b k t n m.toNat).map V.int)) → Q (.ref p) H'
theorem use_trail {B H : Hp} {Lw : List (Addr × HO)} {a : Addr} {b k t n m : Int} {Q : VK} {E : XK} (O : Own B Lw H) (h1 : TrickAt Z H a b k t) (h2 : -(10 ^ 40) ≤ n ∧ n ≤ 10 ^ 40) (h3 : 0 ≤ m ∧ m ≤ 200)
    (h : ∀ p H', Own B ((p, .lst ((trailL b k t n m.toNat).map V.int)) :: Lw) H' → Q (.ref p) H') : sp_trail Z ([.ref a, .int n, .int m] ++ []) H Q E :=
  ⟨a, b, k, t, n, m, rfl, h1, h2, h3, fun p H' s hp hp' => h p H' (O.got s hp hp')⟩
theorem ok_trail (T : Txt K mg Z) : FnOk P w K mg base CX0 3 Z.f_trail Z.d_trail p_trail (sp_trail Z) := by
  refine T.F_trail.ok sc_trail (fun vs H Q E h => ?_) (fun cdv A outer s H vs Q E hr h => ?_)
  · obtain ⟨_, _, _, _, _, _, rfl, _⟩ := h; rfl
  · obtain ⟨a, b, k, t, n, m, rfl, ha, ⟨hn1, hn2⟩, ⟨hm1, hm2⟩, h⟩ := h
    have O := Own.refl H
    refine ⟨_, (pss_cons (ps_expr (pe_call (ok_need_trick T) (hr.mono (by decide)) rfl T.g_need_trick T.F_need_trick.kp T.b_need_trick .nil pass0 (pa_cons (pv 0) pa_nil)))
    (pss_cons (ps_expr (pe_call (ok_need_number T) (hr.mono (by decide)) rfl T.g_need_number T.F_need_number.kp T.b_need_number .nil pass0 (pa_cons (pv 1) pa_nil)))
    (pss_cons (ps_if (pt_not (pt_val (pe_call (ok_is_from T) (hr.mono (by decide)) rfl T.g_is_from T.F_is_from.kp T.b_is_from .nil pass0 (pa_cons (pv 2) (pa_cons pe_int (pa_cons (pe_globI rfl T.v_MOST_ROUNDS) pa_nil)))))) (pss_one ps_never) pss_nil)
    (pss_cons (ps_set (i := 3) sc_trail.nd rfl (Or.inl rfl) (pe_lst (pa_cons (pv 1) pa_nil)))
    (pss_cons (ps_for PassesOwn.never rfl (pi_range1 rfl T.n_range (pa_cons (pv 2) pa_nil)) (pg_name (i := 4) sc_trail.nd rfl (Or.inl rfl))
    (pss_one (ps_expr (pe_bm PySem.F.plainAttrs_list PySem.F.slot_list_append PySem.F.type_list_append mt_append (pv 3) (pa_cons (pe_call (ok_behind T) (hr.mono (by decide)) rfl T.g_behind T.F_behind.kp T.b_behind .nil pass0 (pa_cons (pv 0) (pa_cons (pe_ix (r := rIxL K) ix_list (pv 3) (pe_un un_neg pe_int) (fun _ _ => rfl)) pa_nil))) pa_nil)))))
    (pss_one (ps_ret (pv 3)))))))), ?_⟩
    walk_at "g"; walk_at "mkL"; intro p H1 hp O
    walk_at "g"
    refine for_range (fun i σ H' => ∃ v4, σ = [some (.ref a), some (.int n), some (.int m), some (.ref p), v4] ∧ Own H [(p, .lst ((trailL b k t n i).map V.int))] H') ⟨_, rfl, O⟩ ?_ ?_
    · clear O
      rintro i σ H' hi ⟨v4, rfl, O⟩
      have ha := ha.same O.st
      walk_at "g"
      refine ⟨.inl ⟨rfl, _, Own.sq O 0 rfl⟩, ?_⟩
      walk_at "g"
      have e1 : atI ((trailL b k t n i).map V.int) (-1) = some (.int (itB b k t n i)) := by
        unfold atI
        rw [List.length_map, trailL_len]
        rw [show ixN (i + 1) (-1) = some i by unfold ixN; rw [if_neg (by omega), if_pos (by omega)]; exact congrArg some (by omega)]
        show ((trailL b k t n i).map V.int)[i]? = _
        rw [List.getElem?_map, trailL_last]
        rfl
      refine a_ixL (Own.sq O 0 rfl) e1 ?_
      walk_at "g"
      refine a_app O 0 rfl (by rw [List.length_map, trailL_len]; omega) (fun H2 O => ?_)
      walk_at "g"
      refine ⟨_, rfl, ?_⟩
      rw [show (trailL b k t n (i + 1)).map V.int = (trailL b k t n i).map V.int ++ [.int (beh b k t (itB b k t n i))] by rw [trailL, List.map_append]; rfl]
      exact O
    · clear O
      rintro σ H' ⟨v4, rfl, O⟩
      walk_at "g"
      exact h p _ O.st hp (O.get 0 rfl)

/-! ### ahead -/
-- @NEEDS Trick_init need_trick need_number
theorem ahead_in {B t n x r : Int} (hB : 2 ≤ B) (h0 : 0 ≤ r) (h1 : r < B) (hx : x = (n - t * r) * B + r) (hw : 0 ≤ n - t * r) : 0 ≤ x ∧ x / B + t * (x % B) = n ∧ x % B = r := by
  have e : x % B = r := by rw [hx, Int.add_comm, Int.add_mul_emod_self_right]; exact Int.emod_eq_of_lt h0 h1
  have d : x / B = n - t * r := by rw [hx, Int.add_comm, Int.add_mul_ediv_right _ _ (by omega), Int.ediv_eq_zero_of_lt h0 h1, Int.zero_add]
  refine ⟨?_, by rw [e, d]; omega, e⟩
  have q : 0 ≤ (n - t * r) * B := Int.mul_nonneg hw (by omega)
  omega
theorem ahead_out {B t n x r : Int} (hB : 2 ≤ B) (hr : x % B = r) (hx : 0 ≤ x) (h : x / B + t * (x % B) = n) : 0 ≤ n - t * r ∧ x = (n - t * r) * B + r := by
  have d : x / B = n - t * r := by rw [← hr]; omega
  have q : 0 ≤ x / B := Int.ediv_nonneg hx (by omega)
  refine ⟨by omega, ?_⟩
  have e := Int.mul_ediv_add_emod x B
  rw [hr, d, Int.mul_comm] at e
  exact e.symm
/-- the list of the numbers ahead whose rest is below i -/
structure AheadL (B t n : Int) (i : Nat) (ms : List Int) : Prop where
  mem : ∀ x, x ∈ ms ↔ 0 ≤ x ∧ x / B + t * (x % B) = n ∧ x % B < i
  nd : ms.Nodup
  len : ms.length ≤ i
theorem aheadL_zero {B t n : Int} (hB : 2 ≤ B) : AheadL B t n 0 [] := ⟨fun x => ⟨fun h => absurd h List.not_mem_nil, fun ⟨_, _, h⟩ => absurd h (by have := Int.emod_nonneg x (show B ≠ 0 by omega); omega)⟩, List.nodup_nil, Nat.le_refl 0⟩
theorem aheadL_yes {B t n : Int} {i : Nat} {ms : List Int} (hB : 2 ≤ B) (hi : (i : Int) < B) (h : AheadL B t n i ms) (hw : 0 ≤ n - t * i) : AheadL B t n (i + 1) (ms ++ [(n - t * i) * B + i]) := by
  have q := ahead_in (B := B) (t := t) (n := n) (x := (n - t * i) * B + i) (r := i) hB (by omega) hi rfl hw
  refine ⟨fun x => ?_, ?_, by rw [List.length_append, List.length_singleton]; have := h.len; omega⟩
  · rw [List.mem_append, List.mem_singleton, h.mem]
    constructor
    · rintro (⟨h1, h2, h3⟩ | rfl)
      · exact ⟨h1, h2, by omega⟩
      · exact ⟨q.1, q.2.1, by rw [q.2.2]; omega⟩
    · rintro ⟨h1, h2, h3⟩
      by_cases c : x % B < i
      · exact .inl ⟨h1, h2, c⟩
      · exact .inr (ahead_out hB (by omega) h1 h2).2
  · refine List.nodup_append.mpr ⟨h.nd, by simp, fun a ha b hb => ?_⟩
    rw [List.mem_singleton] at hb
    rintro rfl
    have := ((h.mem a).mp ha).2.2
    rw [hb, q.2.2] at this
    omega
theorem aheadL_no {B t n : Int} {i : Nat} {ms : List Int} (hB : 2 ≤ B) (hi : (i : Int) < B) (h : AheadL B t n i ms) (hw : ¬ 0 ≤ n - t * i) : AheadL B t n (i + 1) ms := by
  refine ⟨fun x => ?_, h.nd, by have := h.len; omega⟩
  rw [h.mem]
  constructor
  · rintro ⟨h1, h2, h3⟩
    exact ⟨h1, h2, by omega⟩
  · rintro ⟨h1, h2, h3⟩
    refine ⟨h1, h2, ?_⟩
    by_cases c : x % B < i
    · exact c
    · exact absurd (ahead_out hB (r := i) (by omega) h1 h2).1 hw
/-- what ahead answers -/
structure AheadOf (b k t n : Int) (ms : List Int) : Prop where
  mem : ∀ x, x ∈ ms ↔ 0 ≤ x ∧ beh b k t x = n
  sorted : ms.Pairwise (· < ·)
  len : ms.length ≤ 256
theorem lt_of_le_nodup : ∀ {l : List Int}, l.Pairwise (· ≤ ·) → l.Nodup → l.Pairwise (· < ·)
  | [], _, _ => .nil
  | x :: l, h, n => by
    rw [List.pairwise_cons] at h
    rw [List.nodup_cons] at n
    refine List.pairwise_cons.mpr ⟨fun y hy => ?_, lt_of_le_nodup h.2 n.2⟩
    have h1 := h.1 y hy
    have h2 : x ≠ y := fun e => n.1 (e ▸ hy)
    omega
theorem aheadOf_sort {b k t n : Int} {ms ms' : List Int} {i : Nat} (hi : ∀ x : Int, x % b ^ k.toNat < i) (h2 : i ≤ 256) (h : AheadL (b ^ k.toNat) t n i ms) (hp : ms'.Perm ms) (hs : ms'.Pairwise (· ≤ ·)) : AheadOf b k t n ms' := by
  refine ⟨fun x => ?_, lt_of_le_nodup hs (hp.nodup_iff.mpr h.nd), by rw [hp.length_eq]; have := h.len; omega⟩
  rw [hp.mem_iff, h.mem]
  exact ⟨fun ⟨h1, h2, _⟩ => ⟨h1, h2⟩, fun ⟨h1, h2⟩ => ⟨h1, h2, hi x⟩⟩
def sp_ahead (Z : Adr) : Sp := fun vs H Q _ => ∃ (a : Addr) (b k t n : Int), vs = [.ref a, .int n] ∧ TrickAt Z H a b k t ∧ (-(10 ^ 40) ≤ n ∧ n ≤ 10 ^ 40) ∧
  ∀ (ms : List Int) (p : Addr) (H' : Hp), AheadOf b k t n ms → H p = none → Same H H' → H' p = some (.lst (ms.map V.int)) → Q (.ref p) H'
theorem use_ahead {B H : Hp} {Lw : List (Addr × HO)} {a : Addr} {b k t n : Int} {Q : VK} {E : XK} (O : Own B Lw H) (ha : TrickAt Z H a b k t) (h1 : -(10 ^ 40) ≤ n) (h2 : n ≤ 10 ^ 40)
    (h : ∀ (ms : List Int) (p : Addr) (H' : Hp), AheadOf b k t n ms → Own B ((p, .lst (ms.map V.int)) :: Lw) H' → Q (.ref p) H') : sp_ahead Z ([.ref a, .int n] ++ []) H Q E :=
  ⟨a, b, k, t, n, rfl, ha, ⟨h1, h2⟩, fun ms p H' hm hp s g => h ms p H' hm (O.got s hp g)⟩
theorem ok_ahead (T : Txt K mg Z) : FnOk P w K mg base CX0 3 Z.f_ahead Z.d_ahead p_ahead (sp_ahead Z) := by
  refine T.F_ahead.ok sc_ahead (fun vs H Q E h => ?_) (fun cdv A outer s H vs Q E hr h => ?_)
  · obtain ⟨_, _, _, _, _, rfl, _⟩ := h; rfl
  · obtain ⟨a, b, k, t, n, rfl, ha, ⟨hn1, hn2⟩, h⟩ := h
    have bs := block_small ha.1.1 ha.1.2.1
    have ht := ha.1.2.2
    have O := Own.refl H
    refine ⟨_, (pss_cons (ps_expr (pe_call (ok_need_trick T) (hr.mono (by decide)) rfl T.g_need_trick T.F_need_trick.kp T.b_need_trick .nil pass0 (pa_cons (pv 0) pa_nil)))
    (pss_cons (ps_expr (pe_call (ok_need_number T) (hr.mono (by decide)) rfl T.g_need_number T.F_need_number.kp T.b_need_number .nil pass0 (pa_cons (pv 1) pa_nil)))
    (pss_cons (ps_setLc (i := 2) rfl sc_ahead.nd rfl rfl (sw_true rfl rfl rfl (by decide +kernel)) (own := [("rest", 3)]) (tt := tYes) (pi_range1 rfl T.n_range (pa_cons (pe_fld (pv 0) rfl) pa_nil)) (blkOk_by (N := N_ahead) (sc := defScope s_ahead) (by decide +kernel)) (fun _ _ _ _ _ => (pg_name (i := 3) sc_ahead.nd rfl (Or.inl rfl))) (fun _ _ _ _ _ => pts_nil) (fun _ _ _ _ _ => (pe_tup (pa_cons (pe_op op_sub (pv 1) (pe_op op_mulX (pe_fldK (K := K) (pv 0) rfl) (pv 3))) (pa_cons (pv 3) pa_nil)))))
    (pss_one (ps_ret (pe_callB (r := rSortedI K) cr_sortedI (by rfl) T.n_sorted boot_sorted (pa_cons (pe_lc (own := [("whole", 4), ("rest", 3)]) rfl sc_ahead.nd (pi_list (pv 2)) (blkOk_by (N := N_ahead) (sc := defScope s_ahead) (by decide +kernel)) (fun _ _ _ _ _ => (pg_tupK (K := K) (n := 2) rfl (pgs_cons (pg_name (i := 4) sc_ahead.nd rfl (Or.inl rfl)) (pgs_cons (pg_name (i := 3) sc_ahead.nd rfl (Or.inl rfl)) pgs_nil)))) (fun _ _ _ _ _ => (pts_one (pt_cmpR op_ge (pv 4) pe_int (nomark _)))) (fun _ _ _ _ _ => (pe_op op_add (pe_op op_mulX (pv 4) (pe_fldK (K := K) (pv 0) rfl)) (pv 3)))) pa_nil))))))), ?_⟩
    walk_at "g"
    intro D hD
    replace O := Own.new (o := .lst []) O hD
    refine lc_range (fun i H' => ∃ (B : Hp) (xs : List V), Own B [(D, .lst xs)] H' ∧ Same H B ∧ xs.length = i ∧ ∀ (j : Nat) x, xs[j]? = some x → ∃ q : Addr, x = .ref q ∧ B q = some (.tup [.int (n - t * j), .int j])) ⟨H, [], O, Same.refl H, rfl, fun j x e => by simp at e⟩ ?_ ?_
    · clear O
      rintro i H' hi ⟨B, xs, O, sB, hl, hx⟩
      have ha := ha.same sB
      walk_at "g"
      refine ⟨rfl, ?_⟩
      walk_at "g"
      walk_at "mkT"; intro p H2 hp O
      walk_at "g"
      have bs2 : xs.length < sizeLine := Nat.lt_of_lt_of_le (show xs.length < 1000 by omega) (by decide)
      refine ⟨_, O.get 1 rfl, bs2, ?_⟩
      replace O := Own.put (u := .lst (xs ++ [.ref p])) O 1 rfl
      have O2 : Own _ [(D, .lst (xs ++ [.ref p]))] _ := Own.fix O
      have s2 := Own.fixS O
      refine ⟨_, _, O2, sB.trans s2, by rw [List.length_append, List.length_singleton, hl], fun j x hj => ?_⟩
      by_cases c : j < xs.length
      · rw [List.getElem?_append_left c] at hj
        obtain ⟨q, e, g⟩ := hx j x hj
        exact ⟨q, e, s2 _ _ g⟩
      · rw [List.getElem?_append_right (by omega)] at hj
        have ej : j = i := by
          by_cases z : j - xs.length = 0
          · omega
          · rw [List.getElem?_eq_none (by rw [List.length_singleton]; omega)] at hj
            cases hj
        subst ej
        rw [hl, Nat.sub_self] at hj
        refine ⟨p, (Option.some.inj hj).symm, ?_⟩
        rw [upd_same, Int.zero_add]
    · clear O
      rintro H' ⟨B, xs, O, sB, hl, hx⟩
      have ha := ha.same sB
      walk_at "g"
      refine ⟨D, rfl, ⟨xs, Own.sq O 0 rfl⟩, fun D2 hD2 => ?_⟩
      replace O := Own.new (o := .lst []) O hD2
      refine lc_list (xs := xs) (fun i H' => ∃ ms : List Int, AheadL (b ^ k.toNat) t n i ms ∧ Own B [(D2, .lst (ms.map V.int)), (D, .lst xs)] H') ⟨[], aheadL_zero bs.1, O⟩ (fun i H' _ ⟨ms, _, O⟩ => Own.sq O 1 rfl) ?_ ?_
      · clear O
        rintro i x H' hi ⟨ms, hm, O⟩
        have il : i < xs.length := by
          by_cases c : i < xs.length
          · exact c
          · rw [List.getElem?_eq_none (by omega)] at hi
            cases hi
        obtain ⟨q, rfl, hq⟩ := hx i x hi
        refine a_gtup (SqT.of (O.st _ _ hq)) rfl ?_
        walk_at "g"
        refine ⟨rfl, ?_⟩
        walk_at "g"
        refine a_it2 (fun c => ?_) (fun c => ?_)
        · walk_at "g"
          have ml := hm.len
          refine ⟨_, Own.get O 0 rfl, ?_, ?_⟩
          · rw [List.length_map]
            exact Nat.lt_of_lt_of_le (show ms.length < 1000 by omega) (by decide)
          · replace O := Own.put (u := .lst (ms.map V.int ++ [.int ((n - t * i) * b ^ k.toNat + i)])) O 0 rfl
            refine ⟨_, aheadL_yes bs.1 (by omega) hm (by omega), ?_⟩
            rw [List.map_append]
            exact O
        · walk_at "g"
          exact ⟨ms, aheadL_no bs.1 (by omega) hm (by omega), O⟩
      · clear O
        rintro H' ⟨ms, hm, O⟩
        walk_at "g"
        refine ⟨_, ms, rfl, Own.sq O 0 rfl, fun ns p hp hs hn => ?_⟩
        have O2 := Own.new (o := .lst (ns.map V.int)) O hn
        refine h ns p _ (aheadOf_sort (fun x => ?_) (by omega) hm hp hs) ?_ (sB.trans O2.toSame) (O2.get 0 rfl)
        · have := Int.emod_lt_of_pos x (show 0 < b ^ k.toNat by omega)
          omega
        · cases e : H p with
          | none => rfl
          | some v =>
            have z := O.st _ _ (sB _ _ e)
            rw [hn] at z
            cases z

/-! ### law_taken -/
/-- the row of draws as it stands -/
def RowOk (sc : Addr) (o : HO) : Prop := ∃ i s c : Int, o = .lst [.ref sc, .int i, .int s, .int c] ∧ 0 ≤ i ∧ 0 ≤ s ∧ s < 2147483647 ∧ 0 ≤ c
def sp_law_taken (K : Frag) : Sp := fun vs H Q _ => ∃ (row sc : Addr) (o : HO) (ns : List Int) (m : Int), vs = [.ref row, .int m] ∧ H row = some o ∧ RowOk sc o ∧ SqL K H sc (ns.map V.int) ∧ 0 < m ∧ m < 10 ^ 60 ∧
  ∀ (r : Int) (o' : HO) (H' : Hp), 0 ≤ r → r < m → RowOk sc o' → H' row = some o' → (∀ b v, b ≠ row → H b = some v → H' b = some v) → Q (.int r) H'
theorem row_ne {K : Frag} {H : Hp} {row sc : Addr} {o : HO} {ns : List Int} (h : H row = some o) (r : RowOk sc o) (hs : SqL K H sc (ns.map V.int)) : SqL K (del1 H row) sc (ns.map V.int) := by
  obtain ⟨i, s, c, rfl, _⟩ := r
  have d : ∀ ns : List Int, (ns.map V.int) ≠ [.ref sc, .int i, .int s, .int c] := fun ns e => by
    cases ns with
    | nil => cases e
    | cons a l => injection e with e1 _; cases e1
  rcases hs with (hs | ⟨q, hs⟩) | hs
  · have ne : sc ≠ row := fun z => by
      rw [z, h] at hs
      injection hs with e
      injection e with e
      exact d ns e.symm
    exact .inl (.inl (by rw [del1_ne ne]; exact hs))
  · have ne : sc ≠ row := fun z => by
      rw [z, h] at hs
      injection hs with e
      cases e
    exact .inl (.inr ⟨q, by rw [del1_ne ne]; exact hs⟩)
  · exact .inr hs
theorem use_law_taken {K : Frag} {B H : Hp} {Lw : List (Addr × HO)} {row sc : Addr} {o : HO} {ns : List Int} {m : Int} {Q : VK} {E : XK} (O : Own B Lw H) (i : Nat) (hi : Lw[i]? = some (row, o)) (ho : RowOk sc o) (hs : SqL K B sc (ns.map V.int)) (h1 : 0 < m ∧ m < 10 ^ 60)
    (h : ∀ (r : Int) (o' : HO) (H' : Hp), 0 ≤ r → r < m → RowOk sc o' → Own B (Lw.set i (row, o')) H' → Q (.int r) H') : sp_law_taken K ([.ref row, .int m] ++ []) H Q E :=
  ⟨row, sc, o, ns, m, rfl, O.get i hi, ho, O.seq hs, h1.1, h1.2, fun r o' H' hr0 hr1 ho' h1 h2 => h r o' H' hr0 hr1 ho' (O.but i hi h2 h1)⟩
theorem ok_law_taken (T : Txt K mg Z) : FnOk P w K mg base CX0 1 Z.f_law_taken Z.d_law_taken p_law_taken (sp_law_taken K) := by
  refine T.F_law_taken.ok sc_law_taken (fun vs H Q E h => ?_) (fun cdv A outer s H vs Q E hr h => ?_)
  · obtain ⟨_, _, _, _, _, rfl, _⟩ := h; rfl
  · obtain ⟨row, sc, o, ns, m, rfl, hrow, hok, hs, hm0, hm1, h⟩ := h
    have hs1 := row_ne hrow hok hs
    have O := Own.refl1 hrow
    obtain ⟨i, s0, c, rfl, hi0, hs0, hs2, hc0⟩ := hok
    refine ⟨_, (pss_cons (ps_if (pt_cmpR op_gt (pe_ix (r := rIxL K) ix_list (pv 0) pe_int (fun _ _ => rfl)) pe_int (nomark _)) (pss_cons (ps_set (i := 2) sc_law_taken.nd rfl (Or.inl rfl) (pe_op op_mod (pe_callTy call_int1 (by rfl) T.n_int boot_int (pa_cons (pe_ix (r := rIxL K) ix_list (pv 0) pe_int (fun _ _ => rfl)) pa_nil)) (pv 1)))
    (pss_cons (ps_asg (pe_op op_fdivW (pe_ix (r := rIxL K) ix_list (pv 0) pe_int (fun _ _ => rfl)) (pv 1)) (pg_sub (pv 0) pe_int set_list))
    (pss_one (ps_ret (pv 2))))) pss_nil)
    (pss_cons (ps_asg (pe_op op_add (pe_ix (r := rIxL K) ix_list (pv 0) pe_int (fun _ _ => rfl)) pe_int) (pg_sub (pv 0) pe_int set_list))
    (pss_cons (ps_if (pt_cmpR op_gt (pe_ix (r := rIxL K) ix_list (pv 0) pe_int (fun _ _ => rfl)) (pe_callB (r := R.rLen K) call_lenR (by rfl) T.n_len boot_len (pa_cons (pe_ix (r := rIxL K) ix_list (pv 0) pe_int (fun _ _ => rfl)) pa_nil)) (nomark _)) (pss_cons (ps_asg (pe_op op_mod (pe_callTy call_int1 (by rfl) T.n_int boot_int (pa_cons (pe_op op_add (pe_op op_mulX (pe_ix (r := rIxL K) ix_list (pv 0) pe_int (fun _ _ => rfl)) pe_int) pe_int) pa_nil)) pe_int) (pg_sub (pv 0) pe_int set_list))
    (pss_one (ps_ret (pe_op op_mod (pe_callTy call_int1 (by rfl) T.n_int boot_int (pa_cons (pe_op op_fdivW (pe_ix (r := rIxL K) ix_list (pv 0) pe_int (fun _ _ => rfl)) pe_int) pa_nil)) (pv 1))))) pss_nil)
    (pss_cons (ps_set (i := 3) sc_law_taken.nd rfl (Or.inl rfl) (pe_ix (r := rIxL K) ix_list (pe_ix (r := rIxL K) ix_list (pv 0) pe_int (fun _ _ => rfl)) (pe_op op_sub (pe_ix (r := rIxL K) ix_list (pv 0) pe_int (fun _ _ => rfl)) pe_int) (fun _ _ => rfl)))
    (pss_cons (ps_asg (pe_op op_mod (pe_callTy call_int1 (by rfl) T.n_int boot_int (pa_cons (pe_op op_add (pe_op op_add (pe_op op_mulX (pe_ix (r := rIxL K) ix_list (pv 0) pe_int (fun _ _ => rfl)) pe_int) (pv 3)) pe_int) pa_nil)) pe_int) (pg_sub (pv 0) pe_int set_list))
    (pss_cons (ps_if (pt_cmpR op_ge (pv 3) (pe_op op_pow pe_int pe_int) (nomark _)) (pss_one (ps_asg (pe_op op_fdivW (pv 3) (pv 1)) (pg_sub (pv 0) pe_int set_list))) pss_nil)
    (pss_one (ps_ret (pe_op op_mod (pe_callTy call_int1 (by rfl) T.n_int boot_int (pa_cons (pv 3) pa_nil)) (pv 1)))))))))), ?_⟩
    walk_at "g"
    refine a_it2 (fun c1 => ?_) (fun c1 => ?_)
    · walk_at "g"
      refine h _ _ _ (Int.emod_nonneg _ (by omega)) (Int.emod_lt_of_pos _ hm0) ?_ (Own.get (by assumption) 0 rfl) (Own.toBut (by assumption))
      exact ⟨_, _, _, rfl, hi0, hs0, hs2, Int.ediv_nonneg hc0 (by omega)⟩
    · walk_at "g"
      refine a_it2 (fun c2 => ?_) (fun c2 => ?_)
      · walk_at "g"
        refine h _ _ _ (Int.emod_nonneg _ (by omega)) (Int.emod_lt_of_pos _ hm0) ?_ (Own.get (by assumption) 0 rfl) (Own.toBut (by assumption))
        exact ⟨_, _, _, rfl, by omega, by omega, by omega, hc0⟩
      · rw [List.length_map] at c2
        have hlt : i.toNat < ns.length := by omega
        walk_at "g"
        refine a_ixL (v := .int (ns[i.toNat])) (Own.seq (by assumption) hs1) (at0 (j := i.toNat) (by omega) (by rw [List.getElem?_map, List.getElem?_eq_getElem hlt]; rfl)) ?_
        generalize ns[i.toNat] = cell
        walk_at "g"
        refine a_it2 (fun c3 => ?_) (fun c3 => ?_)
        · walk_at "g"
          refine h _ _ _ (Int.emod_nonneg _ (by omega)) (Int.emod_lt_of_pos _ hm0) ?_ (Own.get (by assumption) 0 rfl) (Own.toBut (by assumption))
          exact ⟨_, _, _, rfl, by omega, by omega, by omega, Int.ediv_nonneg (by omega) (by omega)⟩
        · walk_at "g"
          refine h _ _ _ (Int.emod_nonneg _ (by omega)) (Int.emod_lt_of_pos _ hm0) ?_ (Own.get (by assumption) 0 rfl) (Own.toBut (by assumption))
          exact ⟨_, _, _, rfl, by omega, by omega, by omega, hc0⟩

/-! ### law_power -/
def sp_law_power : Sp := fun vs H Q _ => ∃ b m : Int, vs = [.int b, .int m] ∧ -(2 ^ 62) ≤ m ∧ m < 2 ^ 62 ∧ -(2 ^ 64) < b ∧ b < 2 ^ 64 ∧ Q (.int (b ^ m.toNat)) H
theorem use_law_power {b m : Int} {H : Hp} {Q : VK} {E : XK} (h1 : -(2 ^ 62) ≤ m ∧ m < 2 ^ 62 ∧ -(2 ^ 64) < b ∧ b < 2 ^ 64) (h : Q (.int (b ^ m.toNat)) H) : sp_law_power ([.int b, .int m] ++ []) H Q E := ⟨_, _, rfl, h1.1, h1.2.1, h1.2.2.1, h1.2.2.2, h⟩
theorem ok_law_power (T : Txt K mg Z) : FnOk P w K mg base CX0 1 Z.f_law_power Z.d_law_power p_law_power sp_law_power := by
  refine T.F_law_power.ok sc_law_power (fun vs H Q E h => ?_) (fun cdv A outer s H vs Q E hr h => ?_)
  · obtain ⟨_, _, rfl, _⟩ := h; rfl
  · obtain ⟨b, m, rfl, h1, h2, h3, h4, h⟩ := h
    refine ⟨_, (pss_cons (ps_set (i := 2) sc_law_power.nd rfl (Or.inl rfl) pe_int)
    (pss_cons (ps_for PassesOwn.never rfl (pi_range1 rfl T.n_range (pa_cons (pv 1) pa_nil)) (pg_name (i := 3) sc_law_power.nd rfl (Or.inl rfl))
    (pss_one (ps_set (i := 2) sc_law_power.nd rfl (Or.inl rfl) (pe_op op_mulX (pv 2) (pv 0)))))
    (pss_one (ps_ret (pv 2))))), ?_⟩
    walk_at "g"
    refine for_range (fun i σ H' => H' = H ∧ ∃ v, σ = [some (.int b), some (.int m), some (.int (b ^ i)), v]) ⟨rfl, none, by rw [Int.pow_zero]; rfl⟩ ?_ ?_
    · rintro i σ H' hi ⟨rfl, v, rfl⟩
      walk_at "g"
      exact ⟨rfl, _, by rw [Int.pow_succ]; rfl⟩
    · rintro σ H' ⟨rfl, v, rfl⟩
      walk_at "g"
      exact h
-- @USE
local macro_rules | `(tactic| walk_at "c") => `(tactic| ((with_reducible refine use_law_power ?h1 ?h2); (case h1 => omega)))

/-! ### law_trick -/
-- @NEEDS Trick_init
/-- the drawn parts of a trick in a list -/
def toldL (b k t : Int) : HO := .lst [.int b, .int k, .int t]
def Small (sm : Bool) (b k : Int) : Prop := sm = true → b ^ k.toNat ≤ 25
def sp_law_trick (K : Frag) : Sp := fun vs H Q _ => ∃ (row sc : Addr) (o : HO) (ns : List Int) (sm : Bool), vs = [.ref row, .bl sm] ∧ H row = some o ∧ RowOk sc o ∧ SqL K H sc (ns.map V.int) ∧
  ∀ (b k t : Int) (p : Addr) (o' : HO) (H' : Hp), TrickOk b k t → Small sm b k → H p = none → RowOk sc o' → H' row = some o' → H' p = some (toldL b k t) → (∀ b v, b ≠ row → H b = some v → H' b = some v) → Q (.ref p) H'
theorem use_law_trick {K : Frag} {B H : Hp} {Lw : List (Addr × HO)} {row sc : Addr} {o : HO} {ns : List Int} {sm : Bool} {Q : VK} {E : XK} (O : Own B Lw H) (i : Nat) (hi : Lw[i]? = some (row, o)) (ho : RowOk sc o) (hs : SqL K B sc (ns.map V.int))
    (h : ∀ (b k t : Int) (p : Addr) (o' : HO) (H' : Hp), TrickOk b k t → Small sm b k → RowOk sc o' → Own B ((p, toldL b k t) :: Lw.set i (row, o')) H' → Q (.ref p) H') : sp_law_trick K ([.ref row, .bl sm] ++ []) H Q E :=
  ⟨row, sc, o, ns, sm, rfl, O.get i hi, ho, O.seq hs, fun b k t p o' H' h1 h2 hp ho' g1 gp g2 => h b k t p o' H' h1 h2 ho' (Own.butNew O i hi g2 g1 hp gp)⟩
theorem small_of {b k : Int} {sm : Bool} (hb : 2 ≤ b ∧ b ≤ 16) (hk : 1 ≤ k ∧ k ≤ 2) (h : sm = true → 5 < b → k = 1) : Small sm b k := fun e => by
  rcases (show k = 1 ∨ k = 2 by omega) with rfl | rfl
  · have z : b ^ (1 : Int).toNat = b := by rw [show (1 : Int).toNat = 1 from rfl, Int.pow_succ, Int.pow_zero, Int.one_mul]
    rw [z]; omega
  · have z : b ^ (2 : Int).toNat = b * b := by rw [show (2 : Int).toNat = 2 from rfl, Int.pow_succ, Int.pow_succ, Int.pow_zero, Int.one_mul]
    have b5 : b ≤ 5 := by
      by_cases q : 5 < b
      · have := h e q
        omega
      · omega
    rw [z]
    have h2 : b * b ≤ 5 * 5 := Int.mul_le_mul b5 b5 (by omega) (by omega)
    omega
theorem ok_law_trick (T : Txt K mg Z) : FnOk P w K mg base CX0 2 Z.f_law_trick Z.d_law_trick p_law_trick (sp_law_trick K) := by
  refine T.F_law_trick.ok sc_law_trick (fun vs H Q E h => ?_) (fun cdv A outer s H vs Q E hr h => ?_)
  · obtain ⟨_, _, _, _, _, rfl, _⟩ := h; rfl
  · obtain ⟨row, sc, o, ns, sm, rfl, hrow, hok, hs, h⟩ := h
    have hs := row_ne hrow hok hs
    have O := Own.refl1 hrow
    refine ⟨_, (pss_cons (ps_set (i := 2) sc_law_trick.nd rfl (Or.inr rfl) (pe_ix (r := rIxL K) ix_list (pe_lst (pa_cons pe_int (pa_cons pe_int (pa_cons pe_int (pa_cons pe_int (pa_cons pe_int (pa_cons pe_int (pa_cons (pe_op op_add pe_int (pe_call (ok_law_taken T) (hr.mono (by decide)) rfl T.g_law_taken T.F_law_taken.kp T.b_law_taken .nil pass0 (pa_cons (pv 0) (pa_cons pe_int pa_nil)))) pa_nil)))))))) (pe_call (ok_law_taken T) (hr.mono (by decide)) rfl T.g_law_taken T.F_law_taken.kp T.b_law_taken .nil pass0 (pa_cons (pv 0) (pa_cons pe_int pa_nil))) (fun _ _ => rfl)))
    (C8.pss_cut (ps_set (i := 3) sc_law_trick.nd rfl (Or.inr rfl) (pe_ifExp (PW.pt (pw_and (pt_val (pv 1)) (pw_and1 (pt_cmpR op_gt (pv 2) pe_int (nomark _))))) pe_int (pe_op op_add pe_int (pe_call (ok_law_taken T) (hr.mono (by decide)) rfl T.g_law_taken T.F_law_taken.kp T.b_law_taken .nil pass0 (pa_cons (pv 0) (pa_cons pe_int pa_nil))))))
    (pss_cons (ps_set (i := 4) sc_law_trick.nd rfl (Or.inl rfl) (pe_ix (r := rIxL K) ix_list (pe_lst (pa_cons pe_int (pa_cons (pe_un un_neg pe_int) (pa_cons (pe_un un_neg pe_int) (pa_cons pe_int (pa_cons (pe_op op_sub (pe_call (ok_law_taken T) (hr.mono (by decide)) rfl T.g_law_taken T.F_law_taken.kp T.b_law_taken .nil pass0 (pa_cons (pv 0) (pa_cons pe_int pa_nil))) pe_int) (pa_cons (pe_op op_sub (pe_call (ok_law_taken T) (hr.mono (by decide)) rfl T.g_law_taken T.F_law_taken.kp T.b_law_taken .nil pass0 (pa_cons (pv 0) (pa_cons pe_int pa_nil))) pe_int) pa_nil))))))) (pe_call (ok_law_taken T) (hr.mono (by decide)) rfl T.g_law_taken T.F_law_taken.kp T.b_law_taken .nil pass0 (pa_cons (pv 0) (pa_cons pe_int pa_nil))) (fun _ _ => rfl)))
    (C8.pss_cut (ps_if (pt_cmpR op_eq (pe_call (ok_law_taken T) (hr.mono (by decide)) rfl T.g_law_taken T.F_law_taken.kp T.b_law_taken .nil pass0 (pa_cons (pv 0) (pa_cons pe_int pa_nil))) pe_int (nomark _)) (pss_cons (ps_set (i := 5) sc_law_trick.nd rfl (Or.inr rfl) (pe_op op_add pe_int (pe_call (ok_law_taken T) (hr.mono (by decide)) rfl T.g_law_taken T.F_law_taken.kp T.b_law_taken .nil pass0 (pa_cons (pv 0) (pa_cons pe_int pa_nil)))))
    (pss_cons (ps_setLc (i := 6) rfl sc_law_trick.nd rfl rfl (sw_true rfl rfl rfl (by decide +kernel)) (own := [("_law_one", 7)]) (pi_range1 rfl T.n_range (pa_cons (pv 5) pa_nil)) (blkOk_by (N := N_law_trick) (sc := defScope s_law_trick) (by decide +kernel)) (fun _ _ _ _ _ => (pg_name (i := 7) sc_law_trick.nd rfl (Or.inl rfl))) (fun _ _ _ _ _ => (pts_one (pt_cmpR op_eq (pe_op op_mod (pe_op op_mulX (pv 7) (pe_call (ok_law_power T) (hr.mono (by decide)) rfl T.g_law_power T.F_law_power.kp T.b_law_power .nil pass0 (pa_cons (pv 2) (pa_cons (pv 3) pa_nil)))) (pv 5)) pe_int (nomark _)))) (fun _ _ _ _ _ => (pv 7)))
    (pss_one (ps_set (i := 4) sc_law_trick.nd rfl (Or.inl rfl) (pe_ifExp (pt_cmpR (r := rNeD K) (op_neD hr.units) (pv 6) (pe_lst pa_nil) (nomark _)) (pe_op op_sub (pe_ix (r := rIxL K) ix_list (pv 6) pe_int (fun _ _ => rfl)) (pe_op op_mulX (pv 5) (pe_call (ok_law_taken T) (hr.mono (by decide)) rfl T.g_law_taken T.F_law_taken.kp T.b_law_taken .nil pass0 (pa_cons (pv 0) (pa_cons pe_int pa_nil))))) (pv 4)))))) pss_nil)
    (pss_one (ps_ret (pe_lst (pa_cons (pv 2) (pa_cons (pv 3) (pa_cons (pv 4) pa_nil)))))))))), ?_⟩
    walk_at "g"
    refine use_law_taken O 0 rfl hok hs (by omega) (fun y o H1 hy0 hy1 hok O => ?_)
    walk_at "g"; walk_at "mkL"; intro p H2 hp O
    walk_at "g"
    refine use_law_taken O 1 rfl hok hs (by omega) (fun z o H3 hz0 hz1 hok O => ?_)
    walk_at "g"
    refine a_ixM (ms := [10, 2, 3, 7, 8, 16, 2 + y]) O 0 rfl hz0 hz1 (fun b hb => ?_)
    have hb : 2 ≤ b ∧ b ≤ 16 := by
      simp only [List.mem_cons, List.not_mem_nil, or_false] at hb
      omega
    replace O := O.tail
    walk_at "g"
    -- how many figures
    refine ⟨fun σ H' => ∃ (k : Int) (o : HO) (v4 v5 v6 v7 : Option V), σ = [some (.ref row), some (.bl sm), some (.int b), some (.int k), v4, v5, v6, v7] ∧ (1 ≤ k ∧ k ≤ 2) ∧ (sm = true → 5 < b → k = 1) ∧ RowOk sc o ∧ Own (del1 H row) [(row, o)] H', ?_, ?_⟩
    · walk_at "g"
      refine a_itB (fun e1 => ?_) (fun e1 => ?_)
      · walk_at "g"
        refine a_it2 (fun c => ?_) (fun c => ?_)
        · walk_at "g"
          exact ⟨1, o, _, _, _, _, rfl, by omega, fun _ _ => rfl, hok, O⟩
        · walk_at "g"
          refine use_law_taken O 0 rfl hok hs (by omega) (fun x o H4 hx0 hx1 hok O => ?_)
          walk_at "g"
          exact ⟨_, o, _, _, _, _, rfl, by omega, fun _ q => absurd q c, hok, O⟩
      · walk_at "g"
        refine use_law_taken O 0 rfl hok hs (by omega) (fun x o H4 hx0 hx1 hok O => ?_)
        walk_at "g"
        exact ⟨_, o, _, _, _, _, rfl, by omega, fun q => (by rw [e1] at q; cases q), hok, O⟩
    · clear O hok
      rintro σ H' ⟨k, o, v4, v5, v6, v7, rfl, hk, hsm, hok, O⟩
      walk_at "g"
      refine use_law_taken O 0 rfl hok hs (by omega) (fun t1 o H1 ht10 ht11 hok O => ?_)
      walk_at "g"
      refine use_law_taken O 0 rfl hok hs (by omega) (fun t2 o H1 ht20 ht21 hok O => ?_)
      walk_at "g"; walk_at "mkL"; intro p2 H4 hp2 O
      walk_at "g"
      refine use_law_taken O 1 rfl hok hs (by omega) (fun z2 o H5 hz20 hz21 hok O => ?_)
      walk_at "g"
      refine a_ixM (ms := [1, -1, -2, 0, t1 - 10, t2 - 100]) O 0 rfl hz20 hz21 (fun t ht => ?_)
      have ht : -100 ≤ t ∧ t ≤ 100 := by
        simp only [List.mem_cons, List.not_mem_nil, or_false] at ht
        omega
      replace O := O.tail
      walk_at "g"
      refine ⟨fun σ H' => ∃ (t : Int) (o : HO) (v5 v6 v7 : Option V), σ = [some (.ref row), some (.bl sm), some (.int b), some (.int k), some (.int t), v5, v6, v7] ∧ (-100 ≤ t ∧ t ≤ 100) ∧ RowOk sc o ∧ Own (del1 H row) [(row, o)] H', ?_, ?_⟩
      · walk_at "g"
        refine use_law_taken O 0 rfl hok hs (by omega) (fun x o H6 hx0 hx1 hok O => ?_)
        walk_at "g"
        refine a_it2 (fun c => ?_) (fun c => ?_)
        · walk_at "g"
          refine use_law_taken O 0 rfl hok hs (by omega) (fun d o H7 hd0 hd1 hok O => ?_)
          walk_at "g"
          intro D hD
          replace O := Own.new (o := .lst []) O hD
          refine lc_range (fun i H' => ∃ fs : List Int, (∀ x ∈ fs, 0 ≤ x ∧ x < 2 + d) ∧ fs.length ≤ i ∧ Own (del1 H row) [(D, .lst (fs.map V.int)), (row, o)] H') ⟨[], fun _ h => by simp at h, Nat.le_refl 0, O⟩ ?_ ?_
          · clear O
            rintro i H' hi ⟨fs, hf, hl, O⟩
            walk_at "g"
            refine ⟨rfl, ?_⟩
            have bs := block_small hb hk
            walk_at "g"
            refine a_it2 (fun c2 => ?_) (fun c2 => ?_)
            · walk_at "g"
              refine ⟨_, Own.get O 0 rfl, ?_, ?_⟩
              · rw [List.length_map]
                exact Nat.lt_of_lt_of_le (by omega : fs.length < 1000) (by decide)
              · replace O := Own.put (u := .lst (fs.map V.int ++ [.int (0 + (i : Int))])) O 0 rfl
                refine ⟨fs ++ [0 + (i : Int)], fun y hy => ?_, by rw [List.length_append, List.length_singleton]; omega, ?_⟩
                · rcases List.mem_append.mp hy with z | z
                  · exact hf y z
                  · have e : y = 0 + (i : Int) := by simpa using z
                    omega
                · rw [List.map_append]
                  exact O
            · exact ⟨fs, hf, by omega, O⟩
          · clear O
            rintro H' ⟨fs, hf, hl, O⟩
            walk_at "g"; walk_at "mkL"; intro e He hee O
            walk_at "g"
            cases fs with
            | nil =>
              refine a_neL (ns := []) (Own.sq O 1 rfl) (Own.sq O 0 rfl) ?_
              walk_at "g"
              exact ⟨t, o, _, _, _, rfl, ht, hok, O.tail.tail⟩
            | cons f fs =>
              refine a_neD' (d := pyL (f :: fs)) (e := pyL []) (dp_pyL (Own.sq O 1 rfl)) (dp_pyL (ns := []) (Own.sq O 0 rfl)) (can_pyL _) (Nat.le_trans (dep_pyL _) (by decide)) (can_pyL _) (Nat.le_trans (dep_pyL _) (by decide)) rfl ?_
              have hf0 := hf f List.mem_cons_self
              replace O := O.tail
              walk_at "g"
              refine a_ixI (ms := f :: fs) O 0 rfl (Int.le_refl 0) (Nat.zero_lt_succ _) ?_
              walk_at "g"
              refine use_law_taken O 1 rfl hok hs (by omega) (fun x2 o H8 hx20 hx21 hok O => ?_)
              walk_at "g"
              refine ⟨_, o, _, _, _, rfl, ?_, hok, O.tail⟩
              rcases (show x2 = 0 ∨ x2 = 1 by omega) with rfl | rfl
              · show -100 ≤ f - (2 + d) * 0 ∧ f - (2 + d) * 0 ≤ 100
                rw [Int.mul_zero]; omega
              · show -100 ≤ f - (2 + d) * 1 ∧ f - (2 + d) * 1 ≤ 100
                rw [Int.mul_one]; omega
        · walk_at "g"
          exact ⟨t, o, _, _, _, rfl, ht, hok, O⟩
      · clear O hok
        rintro σ H' ⟨t, o, v5, v6, v7, rfl, ht, hok, O⟩
        walk_at "g"; walk_at "mkL"; intro q H6 hq O
        exact h b k t q o H6 ⟨hb, hk, ht⟩ (small_of hb hk hsm) (Own.was (by assumption : Own (del1 H row) [(row, o)] H') hrow ⟨0, o, rfl⟩ hq) hok (O.get 1 rfl) (O.get 0 rfl) (Own.toBut O)

/-! ### law_behind -/
-- @NEEDS Trick_init law_trick
theorem lbeh_is {b k n : Int} (hb : 2 ≤ b ∧ b ≤ 16) (hk : 1 ≤ k ∧ k ≤ 2) : (n - n % b ^ k.toNat) / b ^ k.toNat = n / b ^ k.toNat := by
  have bs := block_small hb hk
  generalize b ^ k.toNat = m at *
  have e : n - n % m = m * (n / m) := by
    have q := Int.mul_ediv_add_emod n m
    omega
  rw [e]
  exact Int.mul_ediv_cancel_left _ (by omega)
theorem pow1 (b : Int) : b ^ (1 : Int).toNat = b := by rw [show (1 : Int).toNat = 1 from rfl, Int.pow_succ, Int.pow_zero, Int.one_mul]
theorem pow2 (b : Int) : b ^ (2 : Int).toNat = b * b := by rw [show (2 : Int).toNat = 2 from rfl, Int.pow_succ, Int.pow_succ, Int.pow_zero, Int.one_mul]
def sp_law_behind (K : Frag) : Sp := fun vs H Q _ => ∃ (a : Addr) (b k t n : Int), vs = [.ref a, .int n] ∧ SqL K H a [.int b, .int k, .int t] ∧ TrickOk b k t ∧ Q (.int (n / b ^ k.toNat + t * (n % b ^ k.toNat))) H
theorem ok_law_behind (T : Txt K mg Z) : FnOk P w K mg base CX0 1 Z.f_law_behind Z.d_law_behind p_law_behind (sp_law_behind K) := by
  refine T.F_law_behind.ok sc_law_behind (fun vs H Q E h => ?_) (fun cdv A outer s H vs Q E hr h => ?_)
  · obtain ⟨_, _, _, _, _, rfl, _⟩ := h; rfl
  · obtain ⟨a, b, k, t, n, rfl, ha, ⟨hb, hk, ht⟩, h⟩ := h
    refine ⟨_, (pss_cons (ps_asg (pv 0) (pg_lst rfl (pgs_cons (pg_name (i := 2) sc_law_behind.nd rfl (Or.inl rfl)) (pgs_cons (pg_name (i := 3) sc_law_behind.nd rfl (Or.inl rfl)) (pgs_cons (pg_name (i := 4) sc_law_behind.nd rfl (Or.inl rfl)) pgs_nil)))))
    (pss_cons (ps_set (i := 5) sc_law_behind.nd rfl (Or.inl rfl) (pe_ifExp (pt_cmpR op_eq (pv 3) pe_int (nomark _)) (pv 2) (pe_op op_mulX (pv 2) (pv 2))))
    (pss_cons (ps_set (i := 6) sc_law_behind.nd rfl (Or.inl rfl) (pe_op op_mod (pv 1) (pv 5)))
    (pss_one (ps_ret (pe_op op_add (pe_op op_fdivW (pe_op op_sub (pv 1) (pv 6)) (pv 5)) (pe_op op_mulX (pv 4) (pv 6)))))))), ?_⟩
    have bs := block_small hb hk
    have eb := lbeh_is (n := n) hb hk
    walk_at "h"
    refine a_it2 (fun c => ?_) (fun c => ?_)
    · have ek : k = 1 := by omega
      subst ek
      rw [pow1] at h bs eb
      walk_at "g"
      rw [eb]
      exact h
    · have ek : k = 2 := by omega
      subst ek
      rw [pow2] at h bs eb
      have e2 : 0 < b * b := by omega
      walk_at "g"
      rw [eb]
      exact h

/-! ### law_number -/
def sp_law_number (K : Frag) : Sp := fun vs H Q _ => ∃ (row sc : Addr) (o : HO) (ns : List Int), vs = [.ref row] ∧ H row = some o ∧ RowOk sc o ∧ SqL K H sc (ns.map V.int) ∧
  ∀ (n : Int) (o' : HO) (H' : Hp), -(10 ^ 40) ≤ n → n ≤ 10 ^ 40 → RowOk sc o' → H' row = some o' → (∀ b v, b ≠ row → H b = some v → H' b = some v) → Q (.int n) H'
theorem use_law_number {K : Frag} {B H : Hp} {Lw : List (Addr × HO)} {row sc : Addr} {o : HO} {ns : List Int} {Q : VK} {E : XK} (O : Own B Lw H) (i : Nat) (hi : Lw[i]? = some (row, o)) (ho : RowOk sc o) (hs : SqL K B sc (ns.map V.int))
    (h : ∀ (n : Int) (o' : HO) (H' : Hp), -(10 ^ 40) ≤ n → n ≤ 10 ^ 40 → RowOk sc o' → Own B (Lw.set i (row, o')) H' → Q (.int n) H') : sp_law_number K ([.ref row] ++ []) H Q E :=
  ⟨row, sc, o, ns, rfl, O.get i hi, ho, O.seq hs, fun n o' H' h1 h2 ho' g1 g2 => h n o' H' h1 h2 ho' (O.but i hi g2 g1)⟩
theorem ok_law_number (T : Txt K mg Z) : FnOk P w K mg base CX0 2 Z.f_law_number Z.d_law_number p_law_number (sp_law_number K) := by
  refine T.F_law_number.ok sc_law_number (fun vs H Q E h => ?_) (fun cdv A outer s H vs Q E hr h => ?_)
  · obtain ⟨_, _, _, _, rfl, _⟩ := h; rfl
  · obtain ⟨row, sc, o, ns, rfl, hrow, hok, hs, h⟩ := h
    have hs := row_ne hrow hok hs
    have O := Own.refl1 hrow
    refine ⟨_, (pss_cons (ps_set (i := 1) sc_law_number.nd rfl (Or.inl rfl) (pe_ix (r := rIxL K) ix_list (pe_lst (pa_cons pe_int (pa_cons pe_int (pa_cons (pe_op op_pow pe_int pe_int) (pa_cons (pe_op op_pow pe_int pe_int) pa_nil))))) (pe_call (ok_law_taken T) (hr.mono (by decide)) rfl T.g_law_taken T.F_law_taken.kp T.b_law_taken .nil pass0 (pa_cons (pv 0) (pa_cons pe_int pa_nil))) (fun _ _ => rfl)))
    (pss_cons (ps_set (i := 2) sc_law_number.nd rfl (Or.inl rfl) (pe_ifExp (pt_cmpR op_gt (pe_call (ok_law_taken T) (hr.mono (by decide)) rfl T.g_law_taken T.F_law_taken.kp T.b_law_taken .nil pass0 (pa_cons (pv 0) (pa_cons pe_int pa_nil))) pe_int (nomark _)) (pe_call (ok_law_taken T) (hr.mono (by decide)) rfl T.g_law_taken T.F_law_taken.kp T.b_law_taken .nil pass0 (pa_cons (pv 0) (pa_cons (pe_op op_add (pv 1) pe_int) pa_nil))) (pv 1)))
    (pss_one (ps_ret (pe_ifExp (pt_cmpR op_gt (pe_call (ok_law_taken T) (hr.mono (by decide)) rfl T.g_law_taken T.F_law_taken.kp T.b_law_taken .nil pass0 (pa_cons (pv 0) (pa_cons pe_int pa_nil))) pe_int (nomark _)) (pv 2) (pe_un un_neg (pv 2))))))), ?_⟩
    walk_at "g"; walk_at "mkL"; intro p H1 hp O
    walk_at "g"
    refine use_law_taken O 1 rfl hok hs (by omega) (fun z o H2 hz0 hz1 hok O => ?_)
    walk_at "g"
    refine a_ixM (ms := [9, 200, 10 ^ 6, 10 ^ 40]) O 0 rfl hz0 hz1 (fun sz hsz => ?_)
    have hsz : sz = 9 ∨ sz = 200 ∨ sz = 10 ^ 6 ∨ sz = 10 ^ 40 := by simpa using hsz
    have O := O.tail
    walk_at "g"
    refine use_law_taken O 0 rfl hok hs (by omega) (fun y o H3 hy0 hy1 hok O => ?_)
    walk_at "g"
    refine a_it2 (fun c => ?_) (fun c => ?_)
    · walk_at "g"
      refine use_law_taken O 0 rfl hok hs (by omega) (fun n o H4 hn0 hn1 hok O => ?_)
      walk_at "g"
      refine use_law_taken O 0 rfl hok hs (by omega) (fun y2 o H5 hy20 hy21 hok O => ?_)
      walk_at "g"
      refine a_it2 (fun c => ?_) (fun c => ?_)
      · walk_at "g"
        exact h _ _ _ (by omega) (by omega) hok (Own.get O 0 rfl) (Own.toBut O)
      · walk_at "g"
        exact h _ _ _ (by omega) (by omega) hok (Own.get O 0 rfl) (Own.toBut O)
    · walk_at "g"
      refine use_law_taken O 0 rfl hok hs (by omega) (fun y2 o H5 hy20 hy21 hok O => ?_)
      walk_at "g"
      refine a_it2 (fun c => ?_) (fun c => ?_)
      · walk_at "g"
        exact h _ _ _ (by omega) (by omega) hok (Own.get O 0 rfl) (Own.toBut O)
      · walk_at "g"
        exact h _ _ _ (by omega) (by omega) hok (Own.get O 0 rfl) (Own.toBut O)

/-! ### law -/
-- @NEEDS done trail ahead law_trick law_behind law_number law_taken
def sp_law (K : Frag) : Sp := fun vs H Q _ => ∃ (a : Addr) (ns : List Int), vs = [.ref a] ∧ SqL K H a (ns.map V.int) ∧ ns.length ≤ 63 ∧ ∀ H', Q (.bl true) H'
theorem up_same : ∀ {l m : List Int}, l.Pairwise (· < ·) → m.Pairwise (· < ·) → (∀ x, x ∈ l ↔ x ∈ m) → l = m
  | [], [], _, _, _ => rfl
  | [], y :: m, _, _, h => absurd ((h y).mpr List.mem_cons_self) List.not_mem_nil
  | x :: l, [], _, _, h => absurd ((h x).mp List.mem_cons_self) List.not_mem_nil
  | x :: l, y :: m, h1, h2, h => by
    rw [List.pairwise_cons] at h1 h2
    have e : x = y := by
      rcases List.mem_cons.mp ((h x).mp List.mem_cons_self) with c | c
      · exact c
      · rcases List.mem_cons.mp ((h y).mpr List.mem_cons_self) with d | d
        · exact d.symm
        · have := h1.1 _ d
          have := h2.1 _ c
          omega
    subst e
    rw [up_same h1.2 h2.2 fun z => ?_]
    have q := h z
    rw [List.mem_cons, List.mem_cons] at q
    constructor
    · intro c
      rcases q.mp (.inr c) with rfl | d
      · have := h1.1 _ c
        omega
      · exact d
    · intro c
      rcases q.mpr (.inr c) with rfl | d
      · have := h2.1 _ c
        omega
      · exact d
theorem ok_law (T : Txt K mg Z) : FnOk P w K mg base CX0 5 Z.f_law Z.d_law p_law (sp_law K) := by
  refine T.F_law.ok sc_law (fun vs H Q E h => ?_) (fun cdv A outer s H vs Q E hr h => ?_)
  · obtain ⟨_, _, rfl, _⟩ := h; rfl
  · obtain ⟨a, ns, rfl, hS, hlen, h⟩ := h
    have O := Own.refl H
    refine ⟨_, (pss_cons (ps_set (i := 1) sc_law.nd rfl (Or.inl rfl) (pe_lst (pa_cons (pv 0) (pa_cons pe_int (pa_cons pe_int (pa_cons pe_int pa_nil))))))
    (pss_cons (ps_for PassesOwn.never rfl (pi_range1 rfl T.n_range (pa_cons pe_int pa_nil)) (pg_name (i := 2) sc_law.nd rfl (Or.inl rfl))
    (pss_cons (ps_asg (pe_tup (pa_cons (pe_call (ok_law_trick T) (hr.mono (by decide)) rfl T.g_law_trick T.F_law_trick.kp T.b_law_trick .nil pass0 (pa_cons (pv 1) (pa_cons pe_bl pa_nil))) (pa_cons (pe_call (ok_law_number T) (hr.mono (by decide)) rfl T.g_law_number T.F_law_number.kp T.b_law_number .nil pass0 (pa_cons (pv 1) pa_nil)) pa_nil))) (pg_tup rfl (pgs_cons (pg_name (i := 3) sc_law.nd rfl (Or.inr rfl)) (pgs_cons (pg_name (i := 4) sc_law.nd rfl (Or.inr rfl)) pgs_nil))))
    (pss_cons (ps_par (i := 5) (j := 6) (by rfl) sc_law.nd rfl rfl (by decide) rfl rfl (pa_cons (pe_make T.M_Trick (ok_Trick_init T) (hr.mono (by decide)) rfl T.g_Trick T.b_Trick_init .nil pass0 (pa_cons (pe_ix (r := rIxL K) ix_list (pv 3) pe_int (fun _ _ => rfl)) (pa_cons (pe_ix (r := rIxL K) ix_list (pv 3) pe_int (fun _ _ => rfl)) (pa_cons (pe_ix (r := rIxL K) ix_list (pv 3) pe_int (fun _ _ => rfl)) pa_nil)))) (pa_cons (pe_ix (r := rIxL K) ix_list (pe_lst (pa_cons (pe_call (ok_law_taken T) (hr.mono (by decide)) rfl T.g_law_taken T.F_law_taken.kp T.b_law_taken .nil pass0 (pa_cons (pv 1) (pa_cons pe_int pa_nil))) (pa_cons pe_int pa_nil))) (pe_callTy call_int1 (by rfl) T.n_int boot_int (pa_cons (pe_cmpR op_eq (pe_call (ok_law_taken T) (hr.mono (by decide)) rfl T.g_law_taken T.F_law_taken.kp T.b_law_taken .nil pass0 (pa_cons (pv 1) (pa_cons pe_int pa_nil))) pe_int (nomark _)) pa_nil)) (fun _ _ => rfl)) pa_nil)) (by rfl))
    (pss_cons (ps_if (pt_cmpR op_ne (pe_call (ok_done T) (hr.mono (by decide)) rfl T.g_done T.F_done.kp T.b_done .nil pass0 (pa_cons (pv 5) (pa_cons (pv 4) pa_nil))) (pe_call (ok_law_behind T) (hr.mono (by decide)) rfl T.g_law_behind T.F_law_behind.kp T.b_law_behind .nil pass0 (pa_cons (pv 3) (pa_cons (pv 4) pa_nil))) (nomark _)) (pss_one (ps_ret pe_bl)) pss_nil)
    (pss_cons (ps_par (i := 7) (j := 8) (by rfl) sc_law.nd rfl rfl (by decide) rfl rfl (pa_cons (pe_lst (pa_cons (pv 4) pa_nil)) (pa_cons (pv 4) pa_nil)) (by rfl))
    (pss_cons (ps_for PassesOwn.never rfl (pi_range1 rfl T.n_range (pa_cons (pv 6) pa_nil)) (pg_name (i := 9) sc_law.nd rfl (Or.inl rfl))
    (pss_cons (ps_set (i := 8) sc_law.nd rfl (Or.inl rfl) (pe_call (ok_law_behind T) (hr.mono (by decide)) rfl T.g_law_behind T.F_law_behind.kp T.b_law_behind .nil pass0 (pa_cons (pv 3) (pa_cons (pv 8) pa_nil))))
    (pss_one (ps_expr (pe_bm PySem.F.plainAttrs_list PySem.F.slot_list_append PySem.F.type_list_append mt_append (pv 7) (pa_cons (pv 8) pa_nil))))))
    (pss_cons (ps_if (pt_cmpR (r := rNeD K) (op_neD hr.units) (pe_call (ok_trail T) (hr.mono (by decide)) rfl T.g_trail T.F_trail.kp T.b_trail .nil pass0 (pa_cons (pv 5) (pa_cons (pv 4) (pa_cons (pv 6) pa_nil)))) (pv 7) (nomark _)) (pss_one (ps_ret pe_bl)) pss_nil)
    (pss_cons (ps_set (i := 10) sc_law.nd rfl (Or.inl rfl) (pe_call (ok_ahead T) (hr.mono (by decide)) rfl T.g_ahead T.F_ahead.kp T.b_ahead .nil pass0 (pa_cons (pv 5) (pa_cons (pv 4) pa_nil))))
    (pss_cons (ps_if (PW.pt (pw_or (pt_cmpR (r := rNeD K) (op_neD hr.units) (pv 10) (pe_callB (r := rSortedSetN w) (cr_sortedSetN rfl) (by rfl) T.n_sorted boot_sorted (pa_cons (pe_callTy (r := rSetI K w) (cr_setI rfl) (by rfl) T.n_set boot_set (pa_cons (pv 10) pa_nil)) pa_nil)) (nomark _)) (pw_or1 (pt_not (pt_val (pe_callB (r := rAll K) (cr_all rfl) (by rfl) T.n_all boot_all (pa_cons (pe_lc (own := [("_law_one", 12)]) (tt := tYes) rfl sc_law.nd (pi_list (pv 10)) (blkOk_by (N := N_law) (sc := defScope s_law) (by decide +kernel)) (fun _ _ _ _ _ => (pg_name (i := 12) sc_law.nd rfl (Or.inl rfl))) (fun _ _ _ _ _ => pts_nil) (fun _ _ _ _ _ => (pe_and (pe_cmpR op_ge (pv 12) pe_int (nomark _)) (pe_one (pe_cmpR op_eq (pe_call (ok_law_behind T) (hr.mono (by decide)) rfl T.g_law_behind T.F_law_behind.kp T.b_law_behind .nil pass0 (pa_cons (pv 3) (pa_cons (pv 12) pa_nil))) (pv 4) (nomark _)))))) pa_nil))))))) (pss_one (ps_ret pe_bl)) pss_nil)
    (pss_cons (ps_set (i := 11) sc_law.nd rfl (Or.inl rfl) (pe_callB call_absR (by rfl) T.n_abs boot_abs (pa_cons (pe_call (ok_law_number T) (hr.mono (by decide)) rfl T.g_law_number T.F_law_number.kp T.b_law_number .nil pass0 (pa_cons (pv 1) pa_nil)) pa_nil)))
    (pss_one (ps_if (PW.pt (pw_and (pt_cmpR op_le (pe_callB call_absR (by rfl) T.n_abs boot_abs (pa_cons (pe_call (ok_law_behind T) (hr.mono (by decide)) rfl T.g_law_behind T.F_law_behind.kp T.b_law_behind .nil pass0 (pa_cons (pv 3) (pa_cons (pv 11) pa_nil))) pa_nil)) (pe_op op_pow pe_int pe_int) (nomark _)) (pw_and1 (pt_cmpR (r := rIn K true) op_notIn_seq (pv 11) (pe_call (ok_ahead T) (hr.mono (by decide)) rfl T.g_ahead T.F_ahead.kp T.b_ahead .nil pass0 (pa_cons (pv 5) (pa_cons (pe_call (ok_law_behind T) (hr.mono (by decide)) rfl T.g_law_behind T.F_law_behind.kp T.b_law_behind .nil pass0 (pa_cons (pv 3) (pa_cons (pv 11) pa_nil))) pa_nil))) (by rfl))))) (pss_one (ps_ret pe_bl)) pss_nil))))))))))))
    (pss_one (ps_ret pe_bl)))), ?_⟩
    walk_at "g"; walk_at "mkL"; intro row H1 hrow O
    have ok : RowOk a (.lst [.ref a, .int 0, .int 105, .int 0]) := ⟨0, 105, 0, rfl, by decide, by decide, by decide, by decide⟩
    walk_at "g"
    refine for_range (fun i σ H' => ∃ (B : Hp) (o : HO) (v2 v3 v4 v5 v6 v7 v8 v9 v10 v11 v12 : Option V), σ = [some (.ref a), some (.ref row), v2, v3, v4, v5, v6, v7, v8, v9, v10, v11, v12] ∧ Same H B ∧ RowOk a o ∧ Own B [(row, o)] H') ⟨H, _, _, _, _, _, _, _, _, _, _, _, _, rfl, Same.refl H, ok, O⟩ ?_ ?_
    · clear O ok
      rintro i σ H' hi ⟨B, o, v2, v3, v4, v5, v6, v7, v8, v9, v10, v11, v12, rfl, sB, ok, O⟩
      walk_at "g"
      refine use_law_trick O 0 rfl ok (sB.seq hS) (fun b k t p o H2 tk _ ok O => ?_)
      walk_at "g"
      refine use_law_number O 1 rfl ok (sB.seq hS) (fun n o H3 hn0 hn1 ok O => ?_)
      walk_at "g"; walk_at "mkT"; intro tp H4 htp O
      walk_at "g"
      replace O := O.tail
      simp only [List.set] at O
      refine use_Trick O tk (fun x B' H' hx sB2 O ha => ?_)
      replace sB := sB.trans sB2
      walk_at "g"
      refine use_law_taken O 1 rfl ok (sB.seq hS) (by omega) (fun m1 o H5 hm0 hm1 ok O => ?_)
      walk_at "g"; walk_at "mkL"; intro q H6 hq O
      walk_at "g"
      refine use_law_taken O 2 rfl ok (sB.seq hS) (by omega) (fun z o H7 hz0 hz1 ok O => ?_)
      walk_at "g"
      refine .inr ⟨_, rfl, ?_⟩
      refine a_ixM (ms := [m1, 200]) O 0 rfl (by split <;> omega) (by show _ < (2 : Int); split <;> omega) (fun m hm => ?_)
      have hm : 0 ≤ m ∧ m ≤ 200 := by
        simp only [List.mem_cons, List.not_mem_nil, or_false] at hm
        omega
      obtain ⟨hm0, hm1⟩ := hm
      replace O := O.tail
      simp only [List.set] at O
      walk_at "g"
      refine use_done (ha.up O) ⟨hn0, hn1⟩ ?_
      walk_at "g"
      refine ⟨p, b, k, t, n, rfl, Own.sq O 0 rfl, tk, ?_⟩
      walk_at "g"
      refine a_niT (p := beh b k t n = n / b ^ k.toNat + t * (n % b ^ k.toNat)) rfl ?_
      walk_at "g"; walk_at "mkL"; intro due H8 hdue O
      walk_at "g"
      refine for_range (fun j σ H' => ∃ (v9 : Option V), σ = [some (.ref a), some (.ref row), some (.int (0 + (i : Int))), some (.ref p), some (.int n), some (.ref x), some (.int m), some (.ref due), some (.int (itB b k t n j)), v9, v10, v11, v12] ∧ Own B' [(due, .lst ((trailL b k t n j).map V.int)), (p, toldL b k t), (row, o)] H') ⟨_, rfl, O⟩ ?_ ?_
      · clear O
        rintro j σ H' hj ⟨v9, rfl, O⟩
        walk_at "g"
        refine ⟨p, b, k, t, _, rfl, Own.sq O 1 rfl, tk, ?_⟩
        walk_at "g"
        refine ⟨.inl ⟨rfl, _, Own.sq O 0 rfl⟩, ?_⟩
        walk_at "g"
        refine a_app O 0 rfl (by rw [List.length_map, trailL_len]; omega) (fun H2 O => ?_)
        walk_at "g"
        refine ⟨_, rfl, ?_⟩
        rw [show (trailL b k t n (j + 1)).map V.int = (trailL b k t n j).map V.int ++ [.int (beh b k t (itB b k t n j))] by rw [trailL, List.map_append]; rfl]
        exact O
      clear O
      rintro σ H' ⟨v9, rfl, O⟩
      walk_at "g"
      refine use_trail O (ha.up O) ⟨hn0, hn1⟩ ⟨hm0, hm1⟩ (fun q2 H9 O => ?_)
      walk_at "g"
      refine a_neL (Own.sq O 0 rfl) (Own.sq O 1 rfl) ?_
      walk_at "g"
      refine use_ahead O (ha.up O) hn0 hn1 (fun ms q3 H10 am O => ?_)
      walk_at "g"
      have aml := am.len
      refine a_setI O (.inl (Own.sq O 0 rfl)) (by omega) (fun q4 L H11 _ _ O => ?_)
      walk_at "g"
      refine a_sortedSet O 0 rfl (fun ms2 q5 H12 up mem O => ?_)
      walk_at "g"
      obtain rfl : ms2 = ms := up_same up am.sorted fun k => by rw [mem k, decide_eq_true_iff]
      refine a_neL (Own.sq O 2 rfl) (Own.sq O 0 rfl) ?_
      walk_at "g"
      refine ⟨q3, rfl, ⟨_, Own.sq O 2 rfl⟩, fun D hD => ?_⟩
      replace O := Own.new (o := .lst []) O hD
      refine lc_list (xs := ms2.map V.int) (fun j H' => Own B' [(D, .lst ((List.replicate j true).map V.bl)), (q5, .lst (ms2.map V.int)), (q4, SetO w q4 (fun j => decide (j ∈ ms2)) L.length), (q3, .lst (ms2.map V.int)), (q2, .lst ((trailL b k t n m.toNat).map V.int)), (due, .lst ((trailL b k t n m.toNat).map V.int)), (p, toldL b k t), (row, o)] H') O (fun j H' _ O => Own.sq O 3 rfl) ?_ ?_
      · clear O
        rintro j y H' hy O
        rw [List.getElem?_map] at hy
        obtain ⟨z1, hz1, rfl⟩ := Option.map_eq_some_iff.mp hy
        have hmem := (am.mem z1).mp (List.mem_of_getElem? hz1)
        have jl : j < ms2.length := (List.getElem?_eq_some_iff.mp hz1).1
        walk_at "g"
        refine ⟨rfl, ?_⟩
        walk_at "g"
        refine ⟨p, b, k, t, _, rfl, Own.sq O 6 rfl, tk, ?_⟩
        walk_at "g"
        refine ⟨_, Own.get O 0 rfl, ?_, ?_⟩
        · rw [List.length_map, List.length_replicate]
          exact Nat.lt_of_lt_of_le (show _ < 1000 by omega) (by decide)
        · rw [show decide (z1 / b ^ k.toNat + t * (z1 % b ^ k.toNat) = n) = true from decide_eq_true hmem.2]
          rw [show (List.replicate (j + 1) true).map V.bl = (List.replicate j true).map V.bl ++ [.bl true] by rw [List.replicate_succ', List.map_append]; rfl]
          exact Own.put O 0 rfl
      clear O
      rintro H' O
      walk_at "g"
      refine ⟨D, List.replicate _ true, rfl, Own.sq O 0 rfl, ?_⟩
      rw [show (List.replicate (ms2.map V.int).length true).all id = true by rw [List.all_eq_true]; intro x hx; exact (List.mem_replicate.mp hx).2]
      replace O := O.drop 6
      simp only [List.drop] at O
      walk_at "g"
      refine use_law_number (by assumption : Own B' _ _) 1 rfl ok (sB.seq hS) (fun n2 o H13 hm0 hm1 ok O => ?_)
      simp only [List.set] at O
      walk_at "g"
      refine ⟨p, b, k, t, _, rfl, Own.sq O 0 rfl, tk, ?_⟩
      walk_at "g"
      refine a_it2 (fun c => ?_) (fun c => ?_)
      · walk_at "g"
        refine ⟨p, b, k, t, _, rfl, Own.sq O 0 rfl, tk, ?_⟩
        walk_at "g"
        have bd : -(10 ^ 40) ≤ beh b k t (n2.natAbs : Int) ∧ beh b k t (n2.natAbs : Int) ≤ 10 ^ 40 := by
          unfold beh
          omega
        refine use_ahead (n := beh b k t (n2.natAbs : Int)) O (ha.up O) bd.1 bd.2 (fun ms q6 H14 am O => ?_)
        walk_at "g"
        refine a_ninI (Own.sq O 0 rfl) ?_
        rw [show decide ((n2.natAbs : Int) ∈ ms) = true from decide_eq_true ((am.mem _).mpr ⟨by omega, rfl⟩)]
        replace O := O.tail.tail
        walk_at "g"
        exact ⟨_, _, _, _, _, _, _, _, _, _, _, _, _, rfl, sB, ok, O⟩
      · replace O := O.tail
        walk_at "g"
        exact ⟨_, _, _, _, _, _, _, _, _, _, _, _, _, rfl, sB, ok, O⟩
    · clear O ok
      rintro σ H' ⟨B, o, v2, v3, v4, v5, v6, v7, v8, v9, v10, v11, v12, rfl, sB, ok, O⟩
      walk_at "g"
      exact h _

end
theorem all_mk {l : PySem.W.OpenLaw} {w : World} {K : Frag} {h : Heap} {mg : Str → Option Value} {fa f0 f1 f2 f3 f4 f5 f6 f7 f8 f9 f10 f11 f12 f13 f14 f15 CTrick : Addr} (X : K.In h) (G : h.Ns mainGlobals mg) (hfa : mg "law" = some (.ref fa))
    {od0 an0 : Option Addr} {sl0 : Array (Option Value)} {oc0 kV0 dc0 pm0 cd0 ct0 : Value}
    {od1 an1 : Option Addr} {sl1 : Array (Option Value)} {oc1 kV1 dc1 pm1 cd1 ct1 : Value}
    {od2 an2 : Option Addr} {sl2 : Array (Option Value)} {oc2 kV2 dc2 pm2 cd2 ct2 : Value}
    {od3 an3 : Option Addr} {sl3 : Array (Option Value)} {oc3 kV3 dc3 pm3 cd3 ct3 : Value}
    {od4 an4 : Option Addr} {sl4 : Array (Option Value)} {oc4 kV4 dc4 pm4 cd4 ct4 : Value}
    {od5 an5 : Option Addr} {sl5 : Array (Option Value)} {oc5 kV5 dc5 pm5 cd5 ct5 : Value}
    {od6 an6 : Option Addr} {sl6 : Array (Option Value)} {oc6 kV6 dc6 pm6 cd6 ct6 : Value}
    {od7 an7 : Option Addr} {sl7 : Array (Option Value)} {oc7 kV7 dc7 pm7 cd7 ct7 : Value}
    {od8 an8 : Option Addr} {sl8 : Array (Option Value)} {oc8 kV8 dc8 pm8 cd8 ct8 : Value}
    {od9 an9 : Option Addr} {sl9 : Array (Option Value)} {oc9 kV9 dc9 pm9 cd9 ct9 : Value}
    {od10 an10 : Option Addr} {sl10 : Array (Option Value)} {oc10 kV10 dc10 pm10 cd10 ct10 : Value}
    {od11 an11 : Option Addr} {sl11 : Array (Option Value)} {oc11 kV11 dc11 pm11 cd11 ct11 : Value}
    {od12 an12 : Option Addr} {sl12 : Array (Option Value)} {oc12 kV12 dc12 pm12 cd12 ct12 : Value}
    {od13 an13 : Option Addr} {sl13 : Array (Option Value)} {oc13 kV13 dc13 pm13 cd13 ct13 : Value}
    {od14 an14 : Option Addr} {sl14 : Array (Option Value)} {oc14 kV14 dc14 pm14 cd14 ct14 : Value}
    {od15 an15 : Option Addr} {sl15 : Array (Option Value)} {oc15 kV15 dc15 pm15 cd15 ct15 : Value}
    {tk_LEAST_BASE : Tok}
    {tk_MOST_BASE : Tok}
    {tk_MOST_NUMBER : Tok}
    {tk_MOST_TAKE : Tok}
    {tk_MOST_TIMES : Tok}
    {tk_MOST_ROUNDS : Tok}
    (a0 : PySem.W.nsIn K mainGlobals "is_from" = some (some (.ref f0)))
    (l0 : K.lookup f0 = some ⟨oc0, od0, .func (PySem.W.fnOf "is_from" "is_from" (defArgs s_is_from) (defBody s_is_from) (defScope s_is_from) .none kV0 dc0 pm0 an0 cd0 ct0), sl0⟩)
    (c0 : PySem.W.codeIn K cd0 "is_from" = true)
    (k0 : PySem.W.keepIn K (.ref f0) = true)
    (a1 : PySem.W.nsIn K mainGlobals "need_base" = some (some (.ref f1)))
    (l1 : K.lookup f1 = some ⟨oc1, od1, .func (PySem.W.fnOf "need_base" "need_base" (defArgs s_need_base) (defBody s_need_base) (defScope s_need_base) .none kV1 dc1 pm1 an1 cd1 ct1), sl1⟩)
    (c1 : PySem.W.codeIn K cd1 "need_base" = true)
    (k1 : PySem.W.keepIn K (.ref f1) = true)
    (a2 : PySem.W.nsIn K mainGlobals "need_number" = some (some (.ref f2)))
    (l2 : K.lookup f2 = some ⟨oc2, od2, .func (PySem.W.fnOf "need_number" "need_number" (defArgs s_need_number) (defBody s_need_number) (defScope s_need_number) .none kV2 dc2 pm2 an2 cd2 ct2), sl2⟩)
    (c2 : PySem.W.codeIn K cd2 "need_number" = true)
    (k2 : PySem.W.keepIn K (.ref f2) = true)
    (a3 : PySem.W.nsIn K mainGlobals "power" = some (some (.ref f3)))
    (l3 : K.lookup f3 = some ⟨oc3, od3, .func (PySem.W.fnOf "power" "power" (defArgs s_power) (defBody s_power) (defScope s_power) .none kV3 dc3 pm3 an3 cd3 ct3), sl3⟩)
    (c3 : PySem.W.codeIn K cd3 "power" = true)
    (k3 : PySem.W.keepIn K (.ref f3) = true)
    (a4 : PySem.W.findIn K (.ref CTrick) "__init__" = some (some (.ref f4)))
    (i4 : PySem.W.isFn K (.ref f4) = true)
    (l4 : K.lookup f4 = some ⟨oc4, od4, .func (PySem.W.fnOf "__init__" "Trick.__init__" (defArgs s_Trick_init) (defBody s_Trick_init) (defScope s_Trick_init) .none kV4 dc4 pm4 an4 cd4 ct4), sl4⟩)
    (c4 : PySem.W.codeIn K cd4 "Trick.__init__" = true)
    (k4 : PySem.W.keepIn K (.ref f4) = true)
    (a5 : PySem.W.nsIn K mainGlobals "need_trick" = some (some (.ref f5)))
    (l5 : K.lookup f5 = some ⟨oc5, od5, .func (PySem.W.fnOf "need_trick" "need_trick" (defArgs s_need_trick) (defBody s_need_trick) (defScope s_need_trick) .none kV5 dc5 pm5 an5 cd5 ct5), sl5⟩)
    (c5 : PySem.W.codeIn K cd5 "need_trick" = true)
    (k5 : PySem.W.keepIn K (.ref f5) = true)
    (a6 : PySem.W.nsIn K mainGlobals "behind" = some (some (.ref f6)))
    (l6 : K.lookup f6 = some ⟨oc6, od6, .func (PySem.W.fnOf "behind" "behind" (defArgs s_behind) (defBody s_behind) (defScope s_behind) .none kV6 dc6 pm6 an6 cd6 ct6), sl6⟩)
    (c6 : PySem.W.codeIn K cd6 "behind" = true)
    (k6 : PySem.W.keepIn K (.ref f6) = true)
    (a7 : PySem.W.nsIn K mainGlobals "done" = some (some (.ref f7)))
    (l7 : K.lookup f7 = some ⟨oc7, od7, .func (PySem.W.fnOf "done" "done" (defArgs s_done) (defBody s_done) (defScope s_done) .none kV7 dc7 pm7 an7 cd7 ct7), sl7⟩)
    (c7 : PySem.W.codeIn K cd7 "done" = true)
    (k7 : PySem.W.keepIn K (.ref f7) = true)
    (a8 : PySem.W.nsIn K mainGlobals "trail" = some (some (.ref f8)))
    (l8 : K.lookup f8 = some ⟨oc8, od8, .func (PySem.W.fnOf "trail" "trail" (defArgs s_trail) (defBody s_trail) (defScope s_trail) .none kV8 dc8 pm8 an8 cd8 ct8), sl8⟩)
    (c8 : PySem.W.codeIn K cd8 "trail" = true)
    (k8 : PySem.W.keepIn K (.ref f8) = true)
    (a9 : PySem.W.nsIn K mainGlobals "ahead" = some (some (.ref f9)))
    (l9 : K.lookup f9 = some ⟨oc9, od9, .func (PySem.W.fnOf "ahead" "ahead" (defArgs s_ahead) (defBody s_ahead) (defScope s_ahead) .none kV9 dc9 pm9 an9 cd9 ct9), sl9⟩)
    (c9 : PySem.W.codeIn K cd9 "ahead" = true)
    (k9 : PySem.W.keepIn K (.ref f9) = true)
    (a10 : PySem.W.nsIn K mainGlobals "_law_taken" = some (some (.ref f10)))
    (l10 : K.lookup f10 = some ⟨oc10, od10, .func (PySem.W.fnOf "_law_taken" "_law_taken" (defArgs s_law_taken) (defBody s_law_taken) (defScope s_law_taken) .none kV10 dc10 pm10 an10 cd10 ct10), sl10⟩)
    (c10 : PySem.W.codeIn K cd10 "_law_taken" = true)
    (k10 : PySem.W.keepIn K (.ref f10) = true)
    (a11 : PySem.W.nsIn K mainGlobals "_law_power" = some (some (.ref f11)))
    (l11 : K.lookup f11 = some ⟨oc11, od11, .func (PySem.W.fnOf "_law_power" "_law_power" (defArgs s_law_power) (defBody s_law_power) (defScope s_law_power) .none kV11 dc11 pm11 an11 cd11 ct11), sl11⟩)
    (c11 : PySem.W.codeIn K cd11 "_law_power" = true)
    (k11 : PySem.W.keepIn K (.ref f11) = true)
    (a12 : PySem.W.nsIn K mainGlobals "_law_trick" = some (some (.ref f12)))
    (l12 : K.lookup f12 = some ⟨oc12, od12, .func (PySem.W.fnOf "_law_trick" "_law_trick" (defArgs s_law_trick) (defBody s_law_trick) (defScope s_law_trick) .none kV12 dc12 pm12 an12 cd12 ct12), sl12⟩)
    (c12 : PySem.W.codeIn K cd12 "_law_trick" = true)
    (k12 : PySem.W.keepIn K (.ref f12) = true)
    (a13 : PySem.W.nsIn K mainGlobals "_law_behind" = some (some (.ref f13)))
    (l13 : K.lookup f13 = some ⟨oc13, od13, .func (PySem.W.fnOf "_law_behind" "_law_behind" (defArgs s_law_behind) (defBody s_law_behind) (defScope s_law_behind) .none kV13 dc13 pm13 an13 cd13 ct13), sl13⟩)
    (c13 : PySem.W.codeIn K cd13 "_law_behind" = true)
    (k13 : PySem.W.keepIn K (.ref f13) = true)
    (a14 : PySem.W.nsIn K mainGlobals "_law_number" = some (some (.ref f14)))
    (l14 : K.lookup f14 = some ⟨oc14, od14, .func (PySem.W.fnOf "_law_number" "_law_number" (defArgs s_law_number) (defBody s_law_number) (defScope s_law_number) .none kV14 dc14 pm14 an14 cd14 ct14), sl14⟩)
    (c14 : PySem.W.codeIn K cd14 "_law_number" = true)
    (k14 : PySem.W.keepIn K (.ref f14) = true)
    (a15 : PySem.W.nsIn K mainGlobals "law" = some (some (.ref f15)))
    (l15 : K.lookup f15 = some ⟨oc15, od15, .func (PySem.W.fnOf "law" "law" (defArgs s_law) (defBody s_law) (defScope s_law) .none kV15 dc15 pm15 an15 cd15 ct15), sl15⟩)
    (c15 : PySem.W.codeIn K cd15 "law" = true)
    (k15 : PySem.W.keepIn K (.ref f15) = true)
    (aCTrick : PySem.W.nsIn K mainGlobals "Trick" = some (some (.ref CTrick)))
    (pgTrick : PySem.W.plainGet K CTrick Str.empty = true)
    (hdTrick : PySem.W.hasDictIn K CTrick = true)
    (poTrick : PySem.W.plainOver K CTrick = true)
    (saTrick : PySem.W.findIn K (.ref CTrick) "__setattr__" = some (some (.builtin "object.__setattr__")))
    (mkTrick : PySem.W.makesIn K CTrick = true)
    (kcTrick : PySem.W.keepIn K (.ref CTrick) = true)
    (icTrick : PySem.W.findIn K (.ref CTrick) "__class__" = some (some (.builtin "object.__class__")))
    (mcTrick : PySem.W.mroIn K CTrick (.type "object") = some true)
    (nfTrick_basis : PySem.W.findIn K (.ref CTrick) "basis" = some none)
    (nfTrick_many : PySem.W.findIn K (.ref CTrick) "many" = some none)
    (nfTrick_factor : PySem.W.findIn K (.ref CTrick) "factor" = some none)
    (nfTrick_block : PySem.W.findIn K (.ref CTrick) "block" = some none)
    (snA : PySem.W.specialIn K (.builtin "object.__class__") "__get__" = some (some (.builtin "getset_descriptor.__get__")))
    (tkA : PySem.W.takesIn K (.builtin "object.__class__") = some true)
    (v_LEAST_BASE : PySem.W.nsIn K mainGlobals "LEAST_BASE" = some (some (.int (2) tk_LEAST_BASE)))
    (v_MOST_BASE : PySem.W.nsIn K mainGlobals "MOST_BASE" = some (some (.int (16) tk_MOST_BASE)))
    (v_MOST_NUMBER : PySem.W.nsIn K mainGlobals "MOST_NUMBER" = some (some (.int (10000000000000000000000000000000000000000) tk_MOST_NUMBER)))
    (v_MOST_TAKE : PySem.W.nsIn K mainGlobals "MOST_TAKE" = some (some (.int (2) tk_MOST_TAKE)))
    (v_MOST_TIMES : PySem.W.nsIn K mainGlobals "MOST_TIMES" = some (some (.int (100) tk_MOST_TIMES)))
    (v_MOST_ROUNDS : PySem.W.nsIn K mainGlobals "MOST_ROUNDS" = some (some (.int (200) tk_MOST_ROUNDS)))
    (z_isinstance : PySem.W.nsIn K mainGlobals "isinstance" = some none)
    (z_int : PySem.W.nsIn K mainGlobals "int" = some none)
    (z_bool : PySem.W.nsIn K mainGlobals "bool" = some none)
    (z_range : PySem.W.nsIn K mainGlobals "range" = some none)
    (z_sorted : PySem.W.nsIn K mainGlobals "sorted" = some none)
    (z_len : PySem.W.nsIn K mainGlobals "len" = some none)
    (z_abs : PySem.W.nsIn K mainGlobals "abs" = some none)
    (z_all : PySem.W.nsIn K mainGlobals "all" = some none)
    (z_set : PySem.W.nsIn K mainGlobals "set" = some none)
    : ∃ fd : FuncData, (∀ (s : Shared) (v : Value), BindsTo s fd ⟨[v], []⟩ [("_law_script", v)]) ∧ ∀ base : Heap, K.In base → base.Ns mainGlobals mg → FnOk l.prog w K mg base CX0 5 fa fd ["_law_script"] (sp_law K) := by
  have e := hfa.symm.trans (PySem.W.mg_of X G a15)
  cases e
  have F0 := fun_mk (st := s_is_from) l0 c0 k0
  have b0 := F0.binds (ps := p_is_from) fun _ _ _ _ _ _ us hl => match us, hl with | [_, _, _], _ => rfl
  have F1 := fun_mk (st := s_need_base) l1 c1 k1
  have b1 := F1.binds (ps := p_need_base) fun _ _ _ _ _ _ us hl => match us, hl with | [_], _ => rfl
  have F2 := fun_mk (st := s_need_number) l2 c2 k2
  have b2 := F2.binds (ps := p_need_number) fun _ _ _ _ _ _ us hl => match us, hl with | [_], _ => rfl
  have F3 := fun_mk (st := s_power) l3 c3 k3
  have b3 := F3.binds (ps := p_power) fun _ _ _ _ _ _ us hl => match us, hl with | [_, _], _ => rfl
  have F4 := fun_mk (st := s_Trick_init) l4 c4 k4
  have b4 := F4.binds (ps := p_Trick_init) fun _ _ _ _ _ _ us hl => match us, hl with | [_, _, _, _], _ => rfl
  have F5 := fun_mk (st := s_need_trick) l5 c5 k5
  have b5 := F5.binds (ps := p_need_trick) fun _ _ _ _ _ _ us hl => match us, hl with | [_], _ => rfl
  have F6 := fun_mk (st := s_behind) l6 c6 k6
  have b6 := F6.binds (ps := p_behind) fun _ _ _ _ _ _ us hl => match us, hl with | [_, _], _ => rfl
  have F7 := fun_mk (st := s_done) l7 c7 k7
  have b7 := F7.binds (ps := p_done) fun _ _ _ _ _ _ us hl => match us, hl with | [_, _], _ => rfl
  have F8 := fun_mk (st := s_trail) l8 c8 k8
  have b8 := F8.binds (ps := p_trail) fun _ _ _ _ _ _ us hl => match us, hl with | [_, _, _], _ => rfl
  have F9 := fun_mk (st := s_ahead) l9 c9 k9
  have b9 := F9.binds (ps := p_ahead) fun _ _ _ _ _ _ us hl => match us, hl with | [_, _], _ => rfl
  have F10 := fun_mk (st := s_law_taken) l10 c10 k10
  have b10 := F10.binds (ps := p_law_taken) fun _ _ _ _ _ _ us hl => match us, hl with | [_, _], _ => rfl
  have F11 := fun_mk (st := s_law_power) l11 c11 k11
  have b11 := F11.binds (ps := p_law_power) fun _ _ _ _ _ _ us hl => match us, hl with | [_, _], _ => rfl
  have F12 := fun_mk (st := s_law_trick) l12 c12 k12
  have b12 := F12.binds (ps := p_law_trick) fun _ _ _ _ _ _ us hl => match us, hl with | [_, _], _ => rfl
  have F13 := fun_mk (st := s_law_behind) l13 c13 k13
  have b13 := F13.binds (ps := p_law_behind) fun _ _ _ _ _ _ us hl => match us, hl with | [_, _], _ => rfl
  have F14 := fun_mk (st := s_law_number) l14 c14 k14
  have b14 := F14.binds (ps := p_law_number) fun _ _ _ _ _ _ us hl => match us, hl with | [_], _ => rfl
  have F15 := fun_mk (st := s_law) l15 c15 k15
  have b15 := F15.binds (ps := p_law) fun _ _ _ _ _ _ us hl => match us, hl with | [_], _ => rfl
  have T : Txt K mg ⟨f0, _, f1, _, f2, _, f3, _, f4, _, f5, _, f6, _, f7, _, f8, _, f9, _, f10, _, f11, _, f12, _, f13, _, f14, _, fa, _, CTrick⟩ :=
    { F_is_from := F0,
      b_is_from := b0,
      g_is_from := PySem.W.mg_of X G a0,
      F_need_base := F1,
      b_need_base := b1,
      g_need_base := PySem.W.mg_of X G a1,
      F_need_number := F2,
      b_need_number := b2,
      g_need_number := PySem.W.mg_of X G a2,
      F_power := F3,
      b_power := b3,
      g_power := PySem.W.mg_of X G a3,
      F_Trick_init := F4,
      b_Trick_init := b4,
      F_need_trick := F5,
      b_need_trick := b5,
      g_need_trick := PySem.W.mg_of X G a5,
      F_behind := F6,
      b_behind := b6,
      g_behind := PySem.W.mg_of X G a6,
      F_done := F7,
      b_done := b7,
      g_done := PySem.W.mg_of X G a7,
      F_trail := F8,
      b_trail := b8,
      g_trail := PySem.W.mg_of X G a8,
      F_ahead := F9,
      b_ahead := b9,
      g_ahead := PySem.W.mg_of X G a9,
      F_law_taken := F10,
      b_law_taken := b10,
      g_law_taken := PySem.W.mg_of X G a10,
      F_law_power := F11,
      b_law_power := b11,
      g_law_power := PySem.W.mg_of X G a11,
      F_law_trick := F12,
      b_law_trick := b12,
      g_law_trick := PySem.W.mg_of X G a12,
      F_law_behind := F13,
      b_law_behind := b13,
      g_law_behind := PySem.W.mg_of X G a13,
      F_law_number := F14,
      b_law_number := b14,
      g_law_number := PySem.W.mg_of X G a14,
      F_law := F15,
      b_law := b15,
      g_law := PySem.W.mg_of X G a15,
      g_Trick := PySem.W.mg_of X G aCTrick,
      cl_Trick := ⟨pgTrick, hdTrick, poTrick, saTrick⟩,
      is_Trick := ⟨⟨pgTrick, hdTrick, poTrick, saTrick⟩, icTrick, snA, tkA, mcTrick, if_pos (beq_self_eq_true _)⟩,
      M_Trick := ⟨mkTrick, a4, i4, kcTrick⟩,
      nf_Trick_basis := nfTrick_basis,
      nf_Trick_many := nfTrick_many,
      nf_Trick_factor := nfTrick_factor,
      nf_Trick_block := nfTrick_block,
      v_LEAST_BASE := ⟨_, PySem.W.mg_of X G v_LEAST_BASE⟩,
      v_MOST_BASE := ⟨_, PySem.W.mg_of X G v_MOST_BASE⟩,
      v_MOST_NUMBER := ⟨_, PySem.W.mg_of X G v_MOST_NUMBER⟩,
      v_MOST_TAKE := ⟨_, PySem.W.mg_of X G v_MOST_TAKE⟩,
      v_MOST_TIMES := ⟨_, PySem.W.mg_of X G v_MOST_TIMES⟩,
      v_MOST_ROUNDS := ⟨_, PySem.W.mg_of X G v_MOST_ROUNDS⟩,
      n_isinstance := PySem.W.mg_none_of X G z_isinstance,
      n_int := PySem.W.mg_none_of X G z_int,
      n_bool := PySem.W.mg_none_of X G z_bool,
      n_range := PySem.W.mg_none_of X G z_range,
      n_sorted := PySem.W.mg_none_of X G z_sorted,
      n_len := PySem.W.mg_none_of X G z_len,
      n_abs := PySem.W.mg_none_of X G z_abs,
      n_all := PySem.W.mg_none_of X G z_all,
      n_set := PySem.W.mg_none_of X G z_set }
  exact ⟨_, fun s v => .of_eq rfl, fun base _ _ => ok_law T⟩
theorem walk {l : PySem.W.OpenLaw} {q : Program} {loose : List Str} {XP : (Str → Option Value) → Heap → Prop} {YP : World → Heap → Prop} {d : DefRec} {K : Params → Frag} (hn : l.most = some 63) (hdf : d.params.defaults = [])
    (hY : ∀ (w : World) (h : Heap), YP w h → (K w.params).In h)
    (F : ∀ (w : World) (mg : Str → Option Value) (fa : Addr) (h : Heap), (K w.params).In h → h.Ns mainGlobals mg → mg d.name = some (.ref fa) →
      ∃ fd : FuncData, (∀ (s : Shared) (u : Value), BindsTo s fd ⟨[u], []⟩ [("_law_script", u)]) ∧ ∀ base : Heap, (K w.params).In base → base.Ns mainGlobals mg → FnOk l.prog w (K w.params) mg base CX0 5 fa fd ["_law_script"] (sp_law (K w.params))) :
    PySem.W.WalkO q loose XP YP l.row.toRowW d [] (fun f vs => PySem.call f vs) :=
  L2.walk_of (n := 63) (k := 5) (x := "_law_script") (CX := fun _ => CX0) (sp := fun w => sp_law (K w.params)) hn (by decide) hdf ⟨rfl, by decide, by decide⟩ hY F (fun _ _ a ns hl _ hS => ⟨a, ns, rfl, hS, hl, fun _ => rfl⟩) fun _ _ _ _ _ z => z
end Toy

open PySem PySem.W PyProof.Rows
set_option maxRecDepth 100000 in
set_option maxHeartbeats 0 in
theorem PySem.Challenge.cw_resttricks_k05_whole_tricks_holds : PySem.Challenge.rw_resttricks_k05_whole_tricks.Holds := by
  w_on; o_law; k_head; (case hw => w_witness2)
  k_fill
  refine Toy.walk (l := PySem.Challenge.rw_resttricks_k05_whole_tricks) rfl rfl (fun w h Y => PySem.W.kIn_of Y) ?F
  case F =>
    intro w mg fa h KX G hmg
    refine' Toy.all_mk KX G hmg ?a0 ?l0 ?c0 ?k0 ?a1 ?l1 ?c1 ?k1 ?a2 ?l2 ?c2 ?k2 ?a3 ?l3 ?c3 ?k3 ?a4 ?i4 ?l4 ?c4 ?k4 ?a5 ?l5 ?c5 ?k5 ?a6 ?l6 ?c6 ?k6 ?a7 ?l7 ?c7 ?k7 ?a8 ?l8 ?c8 ?k8 ?a9 ?l9 ?c9 ?k9 ?a10 ?l10 ?c10 ?k10 ?a11 ?l11 ?c11 ?k11 ?a12 ?l12 ?c12 ?k12 ?a13 ?l13 ?c13 ?k13 ?a14 ?l14 ?c14 ?k14 ?a15 ?l15 ?c15 ?k15 ?aCTrick ?pgTrick ?hdTrick ?poTrick ?saTrick ?mkTrick ?kcTrick ?icTrick ?mcTrick ?nfTrick_basis ?nfTrick_many ?nfTrick_factor ?nfTrick_block ?snA ?tkA ?v_LEAST_BASE ?v_MOST_BASE ?v_MOST_NUMBER ?v_MOST_TAKE ?v_MOST_TIMES ?v_MOST_ROUNDS ?z_isinstance ?z_int ?z_bool ?z_range ?z_sorted ?z_len ?z_abs ?z_all ?z_set
    (case aCTrick => k_is)
    (case a0 => k_is)
    (case l0 => k_is)
    (case c0 => k_is)
    (case k0 => k_is)
    (case a1 => k_is)
    (case l1 => k_is)
    (case c1 => k_is)
    (case k1 => k_is)
    (case a2 => k_is)
    (case l2 => k_is)
    (case c2 => k_is)
    (case k2 => k_is)
    (case a3 => k_is)
    (case l3 => k_is)
    (case c3 => k_is)
    (case k3 => k_is)
    (case a4 => k_is)
    (case i4 => k_is)
    (case l4 => k_is)
    (case c4 => k_is)
    (case k4 => k_is)
    (case a5 => k_is)
    (case l5 => k_is)
    (case c5 => k_is)
    (case k5 => k_is)
    (case a6 => k_is)
    (case l6 => k_is)
    (case c6 => k_is)
    (case k6 => k_is)
    (case a7 => k_is)
    (case l7 => k_is)
    (case c7 => k_is)
    (case k7 => k_is)
    (case a8 => k_is)
    (case l8 => k_is)
    (case c8 => k_is)
    (case k8 => k_is)
    (case a9 => k_is)
    (case l9 => k_is)
    (case c9 => k_is)
    (case k9 => k_is)
    (case a10 => k_is)
    (case l10 => k_is)
    (case c10 => k_is)
    (case k10 => k_is)
    (case a11 => k_is)
    (case l11 => k_is)
    (case c11 => k_is)
    (case k11 => k_is)
    (case a12 => k_is)
    (case l12 => k_is)
    (case c12 => k_is)
    (case k12 => k_is)
    (case a13 => k_is)
    (case l13 => k_is)
    (case c13 => k_is)
    (case k13 => k_is)
    (case a14 => k_is)
    (case l14 => k_is)
    (case c14 => k_is)
    (case k14 => k_is)
    (case a15 => k_is)
    (case l15 => k_is)
    (case c15 => k_is)
    (case k15 => k_is)
    (case pgTrick => k_is)
    (case hdTrick => k_is)
    (case poTrick => k_is)
    (case saTrick => k_is)
    (case mkTrick => k_is)
    (case kcTrick => k_is)
    (case icTrick => k_is)
    (case mcTrick => k_is)
    (case nfTrick_basis => k_is)
    (case nfTrick_many => k_is)
    (case nfTrick_factor => k_is)
    (case nfTrick_block => k_is)
    (case snA => k_is)
    (case tkA => k_is)
    (case v_LEAST_BASE => k_is)
    (case v_MOST_BASE => k_is)
    (case v_MOST_NUMBER => k_is)
    (case v_MOST_TAKE => k_is)
    (case v_MOST_TIMES => k_is)
    (case v_MOST_ROUNDS => k_is)
    (case z_isinstance => k_is)
    (case z_int => k_is)
    (case z_bool => k_is)
    (case z_range => k_is)
    (case z_sorted => k_is)
    (case z_len => k_is)
    (case z_abs => k_is)
    (case z_all => k_is)
    (case z_set => k_is)
