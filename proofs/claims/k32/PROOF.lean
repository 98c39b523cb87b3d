import PyProof.Rows.All
import Wide.All
import OpenK.AllK
import Wide.FinOn
import HandS.ForMost
import HandS.IsInst
import HandS.Wide
import HandS.Steps
import HandS.Style
import HandS.TupAny
import HandS.Codes
import HandS.SortInts
import HandS.TryOnly
import HandS.Walk
import KE.GoesEnum
import PySem.Challenge.RW_resttricks_k32_whole_good_chains
set_option Elab.async false
set_option linter.all false
set_option maxRecDepth 100000
set_option maxHeartbeats 4000000
/-! ## the layer: what is owned, step by step -/
namespace R
open PySem PySem.Spec PyProof.Rows L2
open PySem.W (Frag)

def del1 (H : Hp) (a : Addr) : Hp := fun b => if b = a then none else H b
/-- B: what stays; Lw: what this frame may change, as it stands -/
structure Own (B : Hp) (Lw : List (Addr × HO)) (H : Hp) : Prop where
  st : ∀ a o, B a = some o → H a = some o
  ow : ∀ p ∈ Lw, H p.1 = some p.2
  no : ∀ p ∈ Lw, B p.1 = none
  nd : (Lw.map (·.1)).Nodup
theorem Own.refl (H : Hp) : Own H [] H := ⟨fun _ _ h => h, fun _ h => by simp at h, fun _ h => by simp at h, by simp⟩
theorem Own.refl1 {H : Hp} {a : Addr} {o : HO} (h : H a = some o) : Own (del1 H a) [(a, o)] H := by
  refine ⟨fun b u e => ?_, fun p hp => ?_, fun p hp => ?_, by simp⟩
  · unfold del1 at e
    split at e
    · cases e
    · exact e
  · have e : p = (a, o) := by simpa using hp
    rw [e]; exact h
  · have e : p = (a, o) := by simpa using hp
    rw [e]; unfold del1; rw [if_pos rfl]
section
variable {B H H' : Hp} {Lw : List (Addr × HO)} {a b p : Addr} {o u : HO} {K : Frag} {xs : List V}
theorem Own.get (O : Own B Lw H) (i : Nat) (h : Lw[i]? = some (a, o)) : H a = some o := O.ow (a, o) (List.mem_of_getElem? h)
theorem Own.gone (O : Own B Lw H) (i : Nat) (h : Lw[i]? = some (a, o)) : B a = none := O.no (a, o) (List.mem_of_getElem? h)
theorem Own.seq (O : Own B Lw H) (h : SqL K B a xs) : SqL K H a xs := by
  rcases h with (h | ⟨q, h⟩) | h
  · exact .inl (.inl (O.st _ _ h))
  · exact .inl (.inr ⟨q, O.st _ _ h⟩)
  · exact .inr h
theorem Own.tup (O : Own B Lw H) (h : SqT K B a xs) : SqT K H a xs := by
  rcases h with (h | ⟨q, h⟩) | h
  · exact .inl (.inl (O.st _ _ h))
  · exact .inl (.inr ⟨q, O.st _ _ h⟩)
  · exact .inr h
theorem Own.sq (O : Own B Lw H) (i : Nat) (h : Lw[i]? = some (a, .lst xs)) : SqL K H a xs := SqL.of (O.get i h)
theorem Own.tq (O : Own B Lw H) (i : Nat) (h : Lw[i]? = some (a, .tup xs)) : SqT K H a xs := SqT.of (O.get i h)
theorem Own.free (O : Own B Lw H) (h : H p = none) : B p = none := by
  cases q : B p with
  | none => rfl
  | some v => rw [O.st _ _ q] at h; cases h
theorem Own.out (O : Own B Lw H) (h : H p = none) : ∀ q ∈ Lw, q.1 ≠ p := fun q hq z => by
  have e := O.ow q hq
  rw [z, h] at e; cases e
/-- a new object -/
theorem Own.new (O : Own B Lw H) (h : H p = none) : Own B ((p, o) :: Lw) (upd H p o) := by
  refine ⟨fun c v e => ?_, fun q hq => ?_, fun q hq => ?_, ?_⟩
  · rw [upd_ne (ne_of_none (O.st _ _ e) h)]; exact O.st _ _ e
  · rcases List.mem_cons.mp hq with rfl | hq
    · exact upd_same
    · show upd H p o q.1 = _
      rw [upd_ne (O.out h q hq)]; exact O.ow q hq
  · rcases List.mem_cons.mp hq with rfl | hq
    · exact O.free h
    · exact O.no q hq
  · rw [List.map_cons, List.nodup_cons]
    refine ⟨fun z => ?_, O.nd⟩
    obtain ⟨q, hq, e⟩ := List.mem_map.mp z
    exact O.out h q hq e
theorem set_map1 : ∀ {Lw : List (Addr × HO)} {i : Nat} {a : Addr} {o o' : HO}, Lw[i]? = some (a, o) → (Lw.set i (a, o')).map (·.1) = Lw.map (·.1)
  | [], _, _, _, _, h => by simp at h
  | x :: r, 0, a, o, o', h => by
    have e : x = (a, o) := by simpa using h
    rw [e]; rfl
  | x :: r, i + 1, a, o, o', h => by
    have ih := set_map1 (Lw := r) (i := i) (o' := o') (by simpa using h)
    show x.1 :: (r.set i (a, o')).map (·.1) = x.1 :: r.map (·.1)
    rw [ih]
theorem mem_set1 : ∀ {Lw : List (Addr × HO)} {i : Nat} {a : Addr} {o o' : HO} {q : Addr × HO}, (Lw.map (·.1)).Nodup → Lw[i]? = some (a, o) → q ∈ Lw.set i (a, o') → q = (a, o') ∨ (q ∈ Lw ∧ q.1 ≠ a)
  | [], _, _, _, _, _, _, h, _ => by simp at h
  | x :: r, 0, a, o, o', q, nd, h, hq => by
    have e : x = (a, o) := by simpa using h
    subst e
    rw [List.map_cons, List.nodup_cons] at nd
    rcases List.mem_cons.mp hq with rfl | hq
    · exact .inl rfl
    · exact .inr ⟨List.mem_cons_of_mem _ hq, fun z => nd.1 (List.mem_map.mpr ⟨q, hq, z⟩)⟩
  | x :: r, i + 1, a, o, o', q, nd, h, hq => by
    rw [List.map_cons, List.nodup_cons] at nd
    have h' : r[i]? = some (a, o) := by simpa using h
    rcases List.mem_cons.mp (show q ∈ x :: r.set i (a, o') from hq) with rfl | hq
    · refine .inr ⟨List.mem_cons_self, fun z => nd.1 (List.mem_map.mpr ⟨(a, o), List.mem_of_getElem? h', z.symm⟩)⟩
    · rcases mem_set1 nd.2 h' hq with z | ⟨z1, z2⟩
      · exact .inl z
      · exact .inr ⟨List.mem_cons_of_mem _ z1, z2⟩
/-- what is owned is changed by someone who keeps all else -/
theorem Own.but (O : Own B Lw H) (i : Nat) (h : Lw[i]? = some (a, o)) (k : ∀ b v, b ≠ a → H b = some v → H' b = some v) (ha : H' a = some u) : Own B (Lw.set i (a, u)) H' := by
  have hB := O.gone i h
  refine ⟨fun c v e => k c v (fun z => ?_) (O.st _ _ e), fun q hq => ?_, fun q hq => ?_, ?_⟩
  · rw [z, hB] at e; cases e
  · rcases mem_set1 O.nd h hq with rfl | ⟨h1, h2⟩
    · exact ha
    · exact k _ _ h2 (O.ow q h1)
  · rcases mem_set1 O.nd h hq with rfl | ⟨h1, h2⟩
    · exact hB
    · exact O.no q h1
  · rw [set_map1 h]; exact O.nd
theorem Own.put (O : Own B Lw H) (i : Nat) (h : Lw[i]? = some (a, o)) : Own B (Lw.set i (a, u)) (upd H a u) :=
  O.but i h (fun b v hb e => by rw [upd_ne hb]; exact e) upd_same
/-- more stands now -/
theorem Own.same (O : Own B Lw H) (s : Same H H') : Own B Lw H' := ⟨fun c v e => s _ _ (O.st _ _ e), fun q hq => s _ _ (O.ow q hq), O.no, O.nd⟩
theorem Own.tail {x : Addr × HO} (O : Own B (x :: Lw) H) : Own B Lw H := ⟨O.st, fun q hq => O.ow q (List.mem_cons_of_mem _ hq), fun q hq => O.no q (List.mem_cons_of_mem _ hq), (List.nodup_cons.mp (by simpa using O.nd)).2⟩
theorem Own.tail2 {x y : Addr × HO} (O : Own B (y :: x :: Lw) H) : Own B (y :: Lw) H := by
  have hn := O.nd
  simp only [List.map_cons, List.nodup_cons, List.mem_cons, not_or] at hn
  refine ⟨O.st, fun q hq => O.ow q ?_, fun q hq => O.no q ?_, ?_⟩
  · rcases List.mem_cons.mp hq with rfl | hq
    · exact List.mem_cons_self
    · exact List.mem_cons_of_mem _ (List.mem_cons_of_mem _ hq)
  · rcases List.mem_cons.mp hq with rfl | hq
    · exact List.mem_cons_self
    · exact List.mem_cons_of_mem _ (List.mem_cons_of_mem _ hq)
  · simp only [List.map_cons, List.nodup_cons]
    exact ⟨hn.1.2, hn.2.2⟩
theorem Own.toSame (O : Own H Lw H') : Same H H' := O.st
/-- at the end: all but a is as it was -/
theorem Own.toBut (O : Own (del1 H a) Lw H') : ∀ b v, b ≠ a → H b = some v → H' b = some v := fun b v hb e => O.st b v (by unfold del1; rw [if_neg hb]; exact e)
theorem del1_seq {o : HO} (h : SqL K H b xs) (ha : H a = some o) (ho : ∀ ys, o ≠ .lst ys ∨ b ≠ a) (hf : ∀ q w, o ≠ .frz q w) (hb : b ≠ a) : SqL K (del1 H a) b xs := by
  rcases h with (h | ⟨q, h⟩) | h
  · exact .inl (.inl (by unfold del1; rw [if_neg hb]; exact h))
  · exact .inl (.inr ⟨q, by unfold del1; rw [if_neg hb]; exact h⟩)
  · exact .inr h
theorem del1_ne {H : Hp} {a b : Addr} (h : b ≠ a) : del1 H a b = H b := by unfold del1; rw [if_neg h]
end
end R
namespace R
open PySem L2
theorem Own.swap {B H : Hp} {Lw : List (Addr × HO)} {x y : Addr × HO} (O : Own B (x :: y :: Lw) H) : Own B (y :: x :: Lw) H := by
  refine ⟨O.st, fun q hq => O.ow q ?_, fun q hq => O.no q ?_, ?_⟩
  · simp only [List.mem_cons] at hq ⊢
    rcases hq with z | z | z
    · exact .inr (.inl z)
    · exact .inl z
    · exact .inr (.inr z)
  · simp only [List.mem_cons] at hq ⊢
    rcases hq with z | z | z
    · exact .inr (.inl z)
    · exact .inl z
    · exact .inr (.inr z)
  · have h := O.nd
    simp only [List.map_cons, List.nodup_cons, List.mem_cons, not_or] at h ⊢
    exact ⟨⟨fun z => h.1.1 z.symm, h.2.1⟩, h.1.2, h.2.2⟩
end R
namespace R
open PySem L2
open PySem.W (Frag)
section
variable {B H H' : Hp} {Lw : List (Addr × HO)} {p : Addr} {o : HO} {K : Frag}
/-- what is owned is let stand for good -/
theorem Own.fix (O : Own B ((p, o) :: Lw) H) : Own (upd B p o) Lw H := by
  have hn := O.nd
  simp only [List.map_cons, List.nodup_cons] at hn
  refine ⟨fun a v e => ?_, fun q hq => O.ow q (List.mem_cons_of_mem _ hq), fun q hq => ?_, hn.2⟩
  · by_cases h : a = p
    · subst h
      rw [upd_same] at e
      rw [← e]
      exact O.ow (a, o) List.mem_cons_self
    · rw [upd_ne h] at e; exact O.st _ _ e
  · have ne : q.1 ≠ p := fun z => hn.1 (List.mem_map.mpr ⟨q, hq, z⟩)
    rw [upd_ne ne]; exact O.no q (List.mem_cons_of_mem _ hq)
theorem Own.fixS (O : Own B ((p, o) :: Lw) H) : Same B (upd B p o) := fun b v e => by
  have h : B p = none := O.no (p, o) List.mem_cons_self
  rw [upd_ne (ne_of_none e h)]; exact e
theorem Own.sub {B' : Hp} (O : Own B' Lw H) (s : Same B B') : Own B Lw H := ⟨fun a v e => O.st _ _ (s _ _ e), O.ow, fun q hq => s.free (O.no q hq), O.nd⟩
end
mutual
theorem dp_same {K : Frag} {H H' : Hp} (s : Same H H') : ∀ (d : PyData) (v : V), Dp K H v d → Dp K H' v d
  | .none, _, h => by cases h; exact .non
  | .bool b, _, h => by cases h; exact .bl b
  | .int i, _, h => by cases h; exact .int i
  | .str x, _, h => by cases h; exact .str x
  | .list ds, _, h => by
    cases h with
    | lst h1 h2 => exact .lst (s.seq h1) (dpAll_same s ds _ h2)
  | .tuple ds, _, h => by
    cases h with
    | tup h1 h2 =>
      refine .tup ?_ (dpAll_same s ds _ h2)
      rcases h1 with (h | ⟨q, h⟩) | h
      · exact .inl (.inl (s _ _ h))
      · exact .inl (.inr ⟨q, s _ _ h⟩)
      · exact .inr h
  | .dict _, _, h => by cases h
theorem dpAll_same {K : Frag} {H H' : Hp} (s : Same H H') : ∀ (ds : List PyData) (vs : List V), DpAll K H vs ds → DpAll K H' vs ds
  | [], _, h => by cases h; exact .nil
  | d :: ds, _, h => by
    cases h with
    | cons h1 h2 => exact .cons (dp_same s d _ h1) (dpAll_same s ds _ h2)
end
end R
namespace R
open PySem L2
theorem Own.got {B H H' : Hp} {Lw : List (Addr × HO)} {p : Addr} {o : HO} (O : Own B Lw H) (s : Same H H') (h : H p = none) (h' : H' p = some o) : Own B ((p, o) :: Lw) H' := by
  have O1 := O.same s
  refine ⟨O1.st, fun q hq => ?_, fun q hq => ?_, ?_⟩
  · rcases List.mem_cons.mp hq with rfl | hq
    · exact h'
    · exact O1.ow q hq
  · rcases List.mem_cons.mp hq with rfl | hq
    · exact O.free h
    · exact O1.no q hq
  · rw [List.map_cons, List.nodup_cons]
    refine ⟨fun z => ?_, O.nd⟩
    obtain ⟨q, hq, e⟩ := List.mem_map.mp z
    exact O.out h q hq e
end R
namespace R
open PySem L2
theorem Own.butNew {B H H' : Hp} {Lw : List (Addr × HO)} {a p : Addr} {o u v : HO} (O : Own B Lw H) (i : Nat) (h : Lw[i]? = some (a, o)) (k : ∀ b v, b ≠ a → H b = some v → H' b = some v) (ha : H' a = some u) (hp : H p = none) (hv : H' p = some v) : Own B ((p, v) :: Lw.set i (a, u)) H' := by
  have O1 := O.but i h k ha
  refine ⟨O1.st, fun q hq => ?_, fun q hq => ?_, ?_⟩
  · rcases List.mem_cons.mp hq with rfl | hq
    · exact hv
    · exact O1.ow q hq
  · rcases List.mem_cons.mp hq with rfl | hq
    · exact O.free hp
    · exact O1.no q hq
  · rw [List.map_cons, List.nodup_cons]
    refine ⟨fun z => ?_, O1.nd⟩
    rw [set_map1 h] at z
    obtain ⟨q, hq, e⟩ := List.mem_map.mp z
    exact O.out hp q hq e
/-- what is new to the owner was new ahead of its changes -/
theorem Own.was {H H0 : Hp} {Lw : List (Addr × HO)} {a p : Addr} {o : HO} (O : Own (del1 H0 a) Lw H) (ha : H0 a = some o) (hl : ∃ (i : Nat) (u : HO), Lw[i]? = some (a, u)) (hp : H p = none) : H0 p = none := by
  cases e : H0 p with
  | none => rfl
  | some w =>
    by_cases z : p = a
    · obtain ⟨i, u, h⟩ := hl
      have q := O.get i h
      rw [← z, hp] at q
      cases q
    · have q := O.st p w (by unfold del1; rw [if_neg z]; exact e)
      rw [hp] at q
      cases q
end R

namespace R
open PySem PySem.Spec PyProof.Rows L2
open PySem.W (Frag)
/-! ### rules of our own -/
theorem op_mulX {X : Cx} : OpR X (binaryOp .Mult) (rI IntMulOk fun i j => .int (i * j)) := opI fun _ _ _ _ _ _ _ hc q => mul_int q hc
theorem mx_l {i j : Int} (h1 : -(2 ^ 64) < i) (h2 : i < 2 ^ 64) : IntMulOk i j := CMul.ok (.inl ⟨h1, h2⟩)
theorem mx_r {i j : Int} (h1 : -(2 ^ 64) < j) (h2 : j < 2 ^ 64) : IntMulOk i j := CMul.ok (.inr ⟨h1, h2⟩)
theorem pe_globI {X : Cx} {x : Str} {i : Int} {pos : Pos} (hg : Gl X x) (hm : ∃ t, X.mg x = some (.int i t)) (hd : (x == ("__debug__" : Str)) = false := by decide) : PE X (.Name x pos) (tC (.int i)) := by
  obtain ⟨t, h⟩ := hm
  exact pe_glob hg h ⟨t, rfl⟩ hd
/-- len, tuple(..), list(..) of a list or tuple -/
def rLen (K : Frag) : List V → Hp → VK → Prop := fun xs H Q => ∃ p ys, xs = [.ref p] ∧ (SqL K H p ys ∨ SqT K H p ys) ∧ Q (.int ys.length) H
theorem call_lenR {X : Cx} : CallR X (.builtin "len") (rLen X.K) := call_len_seq
def rAbs : List V → Hp → VK → Prop := fun xs H Q => ∃ i, xs = [.int i] ∧ Q (.int (if i < 0 then -i else i)) H
theorem call_absR {X : Cx} : CallR X (.builtin "abs") rAbs := call_abs
def rTupOf (K : Frag) : List V → Hp → VK → Prop := fun xs H Q => ∃ p ys, xs = [.ref p] ∧ ((SqL K H p ys ∧ ∀ l, H l = none → Q (.ref l) (upd H l (.tup ys))) ∨ (SqT K H p ys ∧ Q (.ref p) H))
theorem call_tupR {X : Cx} : CallR X (.type "tuple") (rTupOf X.K) := call_tuple_of
def rLstOf (K : Frag) : List V → Hp → VK → Prop := fun xs H Q => ∃ p ys, xs = [.ref p] ∧ (SqL K H p ys ∨ SqT K H p ys) ∧ ∀ l, H l = none → Q (.ref l) (upd H l (.lst ys))
theorem call_lstR {X : Cx} : CallR X (.type "list") (rLstOf X.K) := call_list_of
/-! ### the steps -/
/-- a new list, a new tuple -/
def NewL (xs : List V) (H : Hp) (Q : VK) : Prop := xs.length ≤ sizeLine ∧ ∀ p, H p = none → Q (.ref p) (upd H p (.lst xs))
def NewT (xs : List V) (H : Hp) (Q : VK) : Prop := xs.length ≤ sizeLine ∧ ∀ p, H p = none → Q (.ref p) (upd H p (.tup xs))
section
variable {t u : TS} {D : Ends} {σ : L2.St} {H : Hp} {te ta tb tc : TE} {g : TG} {c d : TT} {Q : VK} {v x y : V} {i : Nat} {r r' : R2} {QB : Bool → Hp → Prop} {QL : List V → Hp → Prop} {K : Frag} {tr : TA} {tl th : TO}
theorem a_seq (h : t { D with nx := u D } σ H) : tSeq t u D σ H := h
theorem a_next (h : D.nx σ H) : tNext D σ H := h
theorem a_asg (h : te σ H fun x H1 => g x σ H1 D.nx) : tAsg te g D σ H := h
theorem a_gname {Qs : L2.St → Hp → Prop} (h : Qs (σ.set i (some v)) H) : gName i v σ H Qs := h
theorem a_drop (h : te σ H fun _ H1 => D.nx σ H1) : tDrop te D σ H := h
theorem a_ret (h : te σ H D.rt) : tRet te D σ H := h
theorem a_retN (h : D.rt .non H) : tRetN D σ H := h
theorem a_if (h : c σ H fun b H1 => if b = true then t D σ H1 else u D σ H1) : tIfS c t u D σ H := h
theorem a_var (e : σ[i]? = some (some v)) (h : Q v H) : tVar i σ H Q := ⟨v, e, h⟩
theorem a_c (h : Q v H) : tC v σ H Q := h
theorem a_op (h : ta σ H fun x H1 => tb σ H1 fun y H2 => r x y H2 Q) : tOp r ta tb σ H Q := h
theorem a_un {f : V → Hp → VK → Prop} (h : ta σ H fun x H1 => f x H1 Q) : tUn f ta σ H Q := h
theorem a_neg {n : Int} (h : Q (.int (-n)) H) : rU (fun i => .int (-i)) (.int n) H Q := ⟨n, rfl, h⟩
theorem a_test (h : te σ H fun x H' => ∃ k, x = .bl k ∧ QB k H') : tTest te σ H QB := h
theorem a_tB (h : te σ H fun x H' => ∃ k, x = .bl k ∧ QB k H') : tB te σ H QB := h
theorem a_bk {b : Bool} (h : QB b H) : ∃ k, V.bl b = .bl k ∧ QB k H := ⟨b, rfl, h⟩
theorem a_and (h : c σ H fun b H1 => if b = true then d σ H1 QB else QB false H1) : tAnd c d σ H QB := h
theorem a_or (h : c σ H fun b H1 => if b = true then QB true H1 else d σ H1 QB) : tOr c d σ H QB := h
theorem a_not (h : c σ H fun b H1 => QB (!b) H1) : tNot c σ H QB := h
theorem a_andV (h : ta σ H fun x H1 => ∃ b, x = .bl b ∧ if b = true then tb σ H1 Q else Q (.bl false) H1) : tAndV ta tb σ H Q := h
theorem a_orV (h : ta σ H fun x H1 => ∃ b, x = .bl b ∧ if b = true then Q (.bl true) H1 else tb σ H1 Q) : tOrV ta tb σ H Q := h
theorem a_notV (h : ta σ H fun x H1 => ∃ b, x = .bl b ∧ Q (.bl (!b)) H1) : tNotV ta σ H Q := h
theorem a_bv {b : Bool} {A : Bool → Prop} (h : A b) : ∃ k, V.bl b = .bl k ∧ A k := ⟨b, rfl, h⟩
theorem a_ifE (h : c σ H fun b H1 => if b = true then ta σ H1 Q else tb σ H1 Q) : tIf c ta tb σ H Q := h
theorem a_nil (h : QL [] H) : tNil σ H QL := h
theorem a_cons (h : te σ H fun x H1 => tr σ H1 fun xs H2 => QL (x :: xs) H2) : tCons te tr σ H QL := h
theorem a_tup (h : tr σ H fun xs H1 => NewT xs H1 Q) : tTup tr σ H Q := h
theorem a_lst (h : tr σ H fun xs H1 => NewL xs H1 Q) : tLst tr σ H Q := h
theorem a_cb {f : List V → Hp → VK → Prop} (h : tr σ H fun vs H1 => f vs H1 Q) : tCB f tr σ H Q := h
theorem a_call {sp : Sp} {dvs : List V} {E : XK} (h : tr σ H fun vs H1 => sp (vs ++ dvs) H1 Q E) : tCall sp dvs E tr σ H Q := h
theorem a_chain (h : ta σ H fun x H1 => tb σ H1 fun y H2 => r x y H2 fun z H3 => ∃ k, z = .bl k ∧ (if k = true then tc σ H3 fun w' H4 => r' y w' H4 Q else Q (.bl false) H3)) : tChain r r' ta tb tc σ H Q := h
theorem a_sl {f : V → Option Int → Option Int → Hp → VK → Prop} (h : te σ H fun x H1 => tl σ H1 fun l H2 => th σ H2 fun u H3 => f x l u H3 Q) : tSl f te tl th σ H Q := h
theorem a_npart {Qo : Option Int → Hp → Prop} (h : Qo none H) : tNoPart σ H Qo := h
theorem a_part {Qo : Option Int → Hp → Prop} (h : te σ H fun x H1 => ∃ i, x = .int i ∧ Qo (some i) H1) : tPart te σ H Qo := h
theorem a_ik {n : Int} {A : Int → Prop} (h : A n) : ∃ i, V.int n = .int i ∧ A i := ⟨n, rfl, h⟩
theorem a_gsub {to ti : TE} {ts : TSet} {Qs : L2.St → Hp → Prop} (h : to σ H fun o H1 => ti σ H1 fun i H2 => ts o i v H2 fun H3 => Qs σ H3) : gSub to ti ts v σ H Qs := h
theorem a_bm {T : String} {f : V → List V → Hp → VK → Prop} {to : TE} (h : to σ H fun x H1 => tyV K T x H1 ∧ tr σ H1 fun xs H2 => f x xs H2 Q) : tBM K T f to tr σ H Q := h
theorem a_bm0 {T : String} {f : V → List V → Hp → VK → Prop} {to : TE} (h : to σ H fun x H1 => tyV K T x H1 ∧ f x [] H1 Q) : tBM0 K T f to σ H Q := h
theorem a_par {a b : Nat} (h : tr σ H fun vs H1 => ∃ v w, vs = [v, w] ∧ D.nx ((σ.set a (some v)).set b (some w)) H1) : tPar a b tr D σ H := h
theorem a_par2 {A : V → V → Prop} (h : A x y) : ∃ v w, [x, y] = [v, w] ∧ A v w := ⟨x, y, rfl, h⟩
theorem a_for {wi : TI} (h : wi σ H fun J H1 => ∃ W : Nat → Nat → L2.St → Hp → Prop, (∃ m, W 0 m σ H1) ∧ ∀ i m σ H, W i m σ H →
  (J.stop i H ∧ D.nx σ H) ∨ (J.go i H ∧ ∃ N : L2.St → Hp → Prop, (∀ σ' H', N σ' H' → ∃ m', m' < m ∧ W (i + 1) m' σ' H') ∧ ∀ x H', J.yld i H x H' → g x σ H' fun σ2 H2 => t { D with nx := N, ct := N, bk := D.nx } σ2 H2)) : tFor wi g t D σ H := h
theorem a_rng1 {RR : It → Hp → Prop} (h : tr σ H fun vs H1 => ∃ j : Int, vs = [.int j] ∧ -(2 ^ 62) ≤ j ∧ j < 2 ^ 62 ∧ RR (Itr 0 j.toNat) H1) : iRng1 tr σ H RR := h
theorem a_rng1' {j : Int} {A : Int → Prop} (h1 : -(2 ^ 62) ≤ j) (h2 : j < 2 ^ 62) (h : A j) : ∃ k : Int, [V.int j] = [.int k] ∧ -(2 ^ 62) ≤ k ∧ k < 2 ^ 62 ∧ A k := ⟨j, rfl, h1, h2, h⟩
theorem a_rng2 {RR : It → Hp → Prop} (h : tr σ H fun vs H1 => ∃ i j : Int, vs = [.int i, .int j] ∧ (-(2 ^ 62) ≤ i ∧ i < 2 ^ 62 ∧ -(2 ^ 62) ≤ j ∧ j < 2 ^ 62) ∧ RR (Itr i (j - i).toNat) H1) : iRng2 tr σ H RR := h
theorem a_rng2' {i j : Int} {A : Int → Int → Prop} (h1 : -(2 ^ 62) ≤ i ∧ i < 2 ^ 62 ∧ -(2 ^ 62) ≤ j ∧ j < 2 ^ 62) (h : A i j) : ∃ a b : Int, [V.int i, V.int j] = [.int a, .int b] ∧ (-(2 ^ 62) ≤ a ∧ a < 2 ^ 62 ∧ -(2 ^ 62) ≤ b ∧ b < 2 ^ 62) ∧ A a b := ⟨i, j, rfl, h1, h⟩
theorem a_lc {wi : TI} {tt : TT} {vs : List Nat} (h : wi σ H fun J H1 => ∀ D, H1 D = none → ∃ W : Nat → Nat → Hp → Prop, (∃ m, W 0 m (upd H1 D (.lst []))) ∧ ∀ i m H, W i m H →
  (J.stop i H ∧ Q (.ref D) H) ∨ (J.go i H ∧ ∃ Nx : Hp → Prop, (∀ H', Nx H' → ∃ m', m' < m ∧ W (i + 1) m' H') ∧ ∀ x H', J.yld i H x H' → g x (wipe σ vs) H' fun σ2 H2 => wipe σ2 vs = wipe σ vs ∧ tt σ2 H2 fun b H3 =>
    if b = true then te σ2 H3 fun y H4 => ∃ acc, H4 D = some (.lst acc) ∧ acc.length < sizeLine ∧ Nx (upd H4 D (.lst (acc ++ [y]))) else Nx H3)) : tLc wi g tt te vs σ H Q := h
theorem a_gtup {n : Nat} {gs : TGs} {p : Addr} {xs : List V} {Qs : L2.St → Hp → Prop} (hs : SqT K H p xs) (hl : xs.length = n) (h : gs xs σ H Qs) : gTup K n gs (.ref p) σ H Qs := ⟨p, xs, rfl, hs, hl, h⟩
theorem a_gcons {gs : TGs} {vs : List V} {Qs : L2.St → Hp → Prop} (h : g v σ H fun σ' H' => gs vs σ' H' Qs) : gCons g gs (v :: vs) σ H Qs := ⟨v, vs, rfl, h⟩
theorem a_gnil {Qs : L2.St → Hp → Prop} (h : Qs σ H) : gNil [] σ H Qs := ⟨rfl, h⟩
theorem a_yes (h : QB true H) : tYes σ H QB := h
-- by values
theorem a_I0 {f : Int → Int → V} {m n : Int} (h : Q (f m n) H) : rI0 f (.int m) (.int n) H Q := ⟨m, n, rfl, rfl, h⟩
theorem a_I {C : Int → Int → Prop} {f : Int → Int → V} {m n : Int} (hc : C m n) (h : Q (f m n) H) : rI C f (.int m) (.int n) H Q := ⟨m, n, rfl, rfl, hc, h⟩
theorem a_eqI {m n : Int} (h : Q (.bl (decide (m = n))) H) : rEq (.int m) (.int n) H Q := ⟨rfl, by
  have e : decide (V.int m = V.int n) = decide (m = n) := by rw [dec_int, Bool.beq_eq_decide_eq]
  rw [e]; exact h⟩
theorem a_neI {m n : Int} (h : Q (.bl (!decide (m = n))) H) : rNe (.int m) (.int n) H Q := ⟨rfl, by
  have e : decide (V.int m = V.int n) = decide (m = n) := by rw [dec_int, Bool.beq_eq_decide_eq]
  rw [e]; exact h⟩
theorem a_isN1 (h : Q (.bl true) H) : rIsN .non .non H Q := ⟨rfl, h⟩
theorem a_isN0 (hx : x ≠ .non) (h : Q (.bl false) H) : rIsN x .non H Q := ⟨rfl, by rw [decide_eq_false hx]; exact h⟩
theorem a_notN1 (h : Q (.bl false) H) : rNotN .non .non H Q := ⟨rfl, h⟩
theorem a_notN0 (hx : x ≠ .non) (h : Q (.bl true) H) : rNotN x .non H Q := ⟨rfl, by rw [decide_eq_false hx]; exact h⟩
theorem a_ixL {p : Addr} {xs : List V} {n : Int} (hs : SqL K H p xs) (ha : atI xs n = some v) (h : Q v H) : rIxL K (.ref p) (.int n) H Q := ⟨p, xs, n, v, rfl, rfl, hs, ha, h⟩
theorem a_ixT {p : Addr} {xs : List V} {n : Int} (hs : SqT K H p xs) (ha : atI xs n = some v) (h : Q v H) : rIxT K (.ref p) (.int n) H Q := ⟨p, xs, n, v, rfl, rfl, hs, ha, h⟩
theorem a_setL {B : Hp} {Lw : List (Addr × HO)} {p : Addr} {xs : List V} {n : Int} {j : Nat} {Qh : Hp → Prop} (O : Own B Lw H) (i : Nat) (h : Lw[i]? = some (p, .lst xs)) (hj : ixN xs.length n = some j)
    (q : ∀ H', Own B (Lw.set i (p, .lst (xs.set j v))) H' → Qh H') : rSetL (.ref p) (.int n) v H Qh := ⟨p, xs, n, j, rfl, rfl, O.get i h, hj, q _ (O.put i h)⟩
theorem a_app {B : Hp} {Lw : List (Addr × HO)} {p : Addr} {xs : List V} (O : Own B Lw H) (i : Nat) (h : Lw[i]? = some (p, .lst xs)) (hl : xs.length ≤ 1000000)
    (q : ∀ H', Own B (Lw.set i (p, .lst (xs ++ [y]))) H' → Q .non H') : rAppend (.ref p) [y] H Q := ⟨p, xs, y, rfl, rfl, O.get i h, Nat.lt_of_le_of_lt hl (by decide), q _ (O.put i h)⟩
theorem a_mkL {B : Hp} {Lw : List (Addr × HO)} {xs : List V} (O : Own B Lw H) (hl : xs.length ≤ 1000000) (q : ∀ p H', H p = none → Own B ((p, .lst xs) :: Lw) H' → Q (.ref p) H') : NewL xs H Q :=
  ⟨Nat.le_trans hl (by decide), fun p hp => q p _ hp (O.new hp)⟩
theorem a_mkT {B : Hp} {Lw : List (Addr × HO)} {xs : List V} (O : Own B Lw H) (hl : xs.length ≤ 1000000) (q : ∀ p H', H p = none → Own B ((p, .tup xs) :: Lw) H' → Q (.ref p) H') : NewT xs H Q :=
  ⟨Nat.le_trans hl (by decide), fun p hp => q p _ hp (O.new hp)⟩
theorem a_int1 {n : Int} {A : Int → Prop} {C : Prop} (h : A n) : (∃ i, [V.int n] = [V.int i] ∧ A i) ∨ C := .inl ⟨n, rfl, h⟩
theorem a_len {q : Addr} {ys : List V} (hs : SqL K H q ys ∨ SqT K H q ys) (h : Q (.int ys.length) H) : rLen K [V.ref q] H Q := ⟨q, ys, rfl, hs, h⟩
theorem a_sum {a : Addr} {ns : List Int} (hs : SqL K H a (ns.map V.int)) (h : Q (.int ns.sum) H) : rSum K [V.ref a] H Q := ⟨a, ns, rfl, hs, h⟩
theorem a_tupL {B : Hp} {Lw : List (Addr × HO)} {a : Addr} {xs : List V} (O : Own B Lw H) (hs : SqL K H a xs) (h : ∀ p H', H p = none → Own B ((p, .tup xs) :: Lw) H' → Q (.ref p) H') : rTupOf K [V.ref a] H Q := ⟨a, xs, rfl, .inl ⟨hs, fun l hl => h l _ hl (O.new hl)⟩⟩
theorem a_tupT {a : Addr} {xs : List V} (hs : SqT K H a xs) (h : Q (.ref a) H) : rTupOf K [V.ref a] H Q := ⟨a, xs, rfl, .inr ⟨hs, h⟩⟩
theorem a_lstO {B : Hp} {Lw : List (Addr × HO)} {a : Addr} {xs : List V} (O : Own B Lw H) (hs : SqL K H a xs ∨ SqT K H a xs) (h : ∀ p H', H p = none → Own B ((p, .lst xs) :: Lw) H' → Q (.ref p) H') : rLstOf K [V.ref a] H Q := ⟨a, xs, rfl, hs, fun l hl => h l _ hl (O.new hl)⟩
theorem a_pow {m n : Int} {k : Nat} (hn : n = (k : Int)) (hk : k ≤ 1000000) (hm : m.natAbs < 2 ^ 64) (h : Q (.int (m ^ k)) H) : rI CPow (fun i j => .int (i ^ j.toNat)) (.int m) (.int n) H Q := by
  subst hn
  exact ⟨m, k, rfl, rfl, ⟨by omega, by omega, hm⟩, h⟩
theorem a_abs {n : Int} (h : Q (.int (n.natAbs : Int)) H) : rAbs [V.int n] H Q := ⟨n, rfl, by
  have e : (if n < 0 then -n else n) = (n.natAbs : Int) := by split <;> omega
  rw [e]; exact h⟩
-- tests
theorem a_tt {A B : Prop} (h : A) : if true = true then A else B := by rw [if_pos rfl]; exact h
theorem a_ff {A B : Prop} (h : B) : if false = true then A else B := by rw [if_neg Bool.false_ne_true]; exact h
theorem a_nt {A B : Prop} (h : B) : if (!true) = true then A else B := a_ff h
theorem a_nf {A B : Prop} (h : A) : if (!false) = true then A else B := a_tt h
theorem a_itT {p A B : Prop} [Decidable p] (hp : p) (h : A) : if decide p = true then A else B := by rw [if_pos (decide_eq_true hp)]; exact h
theorem a_itF {p A B : Prop} [Decidable p] (hp : ¬ p) (h : B) : if decide p = true then A else B := by rw [if_neg (by rw [decide_eq_false hp]; decide)]; exact h
theorem a_it2 {p A B : Prop} [Decidable p] (h1 : p → A) (h2 : ¬ p → B) : if decide p = true then A else B := by
  by_cases hp : p
  · exact a_itT hp (h1 hp)
  · exact a_itF hp (h2 hp)
theorem a_niT {p A B : Prop} [Decidable p] (hp : p) (h : B) : if (!decide p) = true then A else B := by rw [decide_eq_true hp]; exact a_nt h
theorem a_niF {p A B : Prop} [Decidable p] (hp : ¬ p) (h : A) : if (!decide p) = true then A else B := by rw [decide_eq_false hp]; exact a_nf h
theorem a_ni2 {p A B : Prop} [Decidable p] (h1 : p → B) (h2 : ¬ p → A) : if (!decide p) = true then A else B := by
  by_cases hp : p
  · exact a_niT hp (h1 hp)
  · exact a_niF hp (h2 hp)
theorem a_itB {b : Bool} {A B : Prop} (h1 : b = true → A) (h2 : b = false → B) : if b = true then A else B := by
  cases b with
  | true => exact a_tt (h1 rfl)
  | false => exact a_ff (h2 rfl)
theorem a_niB {b : Bool} {A B : Prop} (h1 : b = true → B) (h2 : b = false → A) : if (!b) = true then A else B := by
  cases b with
  | true => exact a_nt (h1 rfl)
  | false => exact a_nf (h2 rfl)
theorem a_cT {p q A B : Prop} [Decidable p] [Decidable q] (hp : p) (hq : q) (h : A) : if (decide p && decide q) = true then A else B := by rw [decide_eq_true hp, decide_eq_true hq]; exact a_tt h
theorem a_cF {p q A B : Prop} [Decidable p] [Decidable q] (hp : ¬ (p ∧ q)) (h : B) : if (decide p && decide q) = true then A else B := by
  by_cases h1 : p
  · rw [decide_eq_true h1, decide_eq_false (fun z => hp ⟨h1, z⟩)]; exact a_ff h
  · rw [decide_eq_false h1]; exact a_ff h
theorem a_ncT {p q A B : Prop} [Decidable p] [Decidable q] (hp : p) (hq : q) (h : B) : if (!(decide p && decide q)) = true then A else B := by rw [decide_eq_true hp, decide_eq_true hq]; exact a_nt h
theorem a_isiI {i : Int} (h : Q (.bl true) H) : rIsi K [.int i, .ty "int"] H Q := ⟨_, _, .type "int", .type "int", true, rfl, .ty _, .base (.int i), kit_ty (by decide +kernel), h⟩
theorem a_isiB {i : Int} (h : Q (.bl false) H) : rIsi K [.int i, .ty "bool"] H Q := ⟨_, _, .type "int", .type "bool", false, rfl, .ty _, .base (.int i), kit_ty (by decide +kernel), h⟩
end
theorem divW {m n : Int} (h : 0 < n) (h' : n < 10 ^ 60) : CDivW m n := wide_div (b := 200) h (by
  have q : (10 : Int) ^ 60 < 2 ^ 200 := by decide
  have r : n < 2 ^ 200 := Int.lt_trans h' q
  omega) (by decide) (by decide)
theorem at0 {α : Type} {xs : List α} {n : Int} {j : Nat} {v : α} (e : n = (j : Int)) (h : xs[j]? = some v) : atI xs n = some v := by
  rw [e]; exact atI_nat h
end R
namespace R
open PySem PySem.Spec PyProof.Rows L2
theorem mx_w {i j : Int} (a b : Nat) (ha : i.natAbs < 2 ^ a) (hb : j.natAbs < 2 ^ b) (h0 : 0 < a := by decide) (h1 : 0 < b := by decide) (h : a + b ≤ 1000000 := by decide) : IntMulOk i j := (wide_mul ha hb h0 h1 h).ok
end R
namespace R
open PySem PySem.Spec PyProof.Rows L2
open PySem.W (Frag)
section
variable {K : Frag} {B H : Hp} {Lw : List (Addr × HO)} {p : Addr} {z : Int} {Q : VK}
/-- an item of a written list at a drawn place -/
theorem a_ixV {xs : List V} (O : Own B Lw H) (i : Nat) (h : Lw[i]? = some (p, .lst xs)) (h0 : 0 ≤ z) (h1 : z < xs.length) (q : ∀ v, v ∈ xs → Q v H) : rIxL K (.ref p) (.int z) H Q := by
  have e : z.toNat < xs.length := by omega
  exact a_ixL (O.sq i h) (at0 (j := z.toNat) (by omega) (List.getElem?_eq_getElem e)) (q _ (List.getElem_mem e))
theorem a_ixM {ms : List Int} (O : Own B Lw H) (i : Nat) (h : Lw[i]? = some (p, .lst (ms.map V.int))) (h0 : 0 ≤ z) (h1 : z < ms.length) (q : ∀ m, m ∈ ms → Q (.int m) H) : rIxL K (.ref p) (.int z) H Q :=
  a_ixV O i h h0 (by rw [List.length_map]; exact h1) fun v hv => by
    obtain ⟨m, hm, rfl⟩ := List.mem_map.mp hv
    exact q m hm
end
end R
namespace R
open PySem PySem.Spec PyProof.Rows L2
open PySem.W (Frag)
section
variable {K : Frag} {B H : Hp} {Lw : List (Addr × HO)} {p : Addr} {z : Int} {Q : VK}
/-- an item of a list of ints -/
theorem a_ixI {ms : List Int} (O : Own B Lw H) (i : Nat) (h : Lw[i]? = some (p, .lst (ms.map V.int))) (h0 : 0 ≤ z) (h1 : z.toNat < ms.length) (q : Q (.int (ms[z.toNat])) H) : rIxL K (.ref p) (.int z) H Q :=
  a_ixL (O.sq i h) (at0 (j := z.toNat) (by omega) (by rw [List.getElem?_map, List.getElem?_eq_getElem h1]; rfl)) q
end
end R
namespace R
open PySem PySem.Spec PyProof.Rows L2
/-- an if whose test comes out one way on all ways -/
theorem a_ifNo {c : TT} {t u : TS} {D : Ends} {σ : L2.St} {H : Hp} (hc : ∀ QB : Bool → Hp → Prop, QB false H → c σ H QB) (h : u D σ H) : tIfS c t u D σ H := hc _ (a_ff h)
theorem a_ifYes {c : TT} {t u : TS} {D : Ends} {σ : L2.St} {H : Hp} (hc : ∀ QB : Bool → Hp → Prop, QB true H → c σ H QB) (h : t D σ H) : tIfS c t u D σ H := hc _ (a_tt h)
theorem a_ifNoH {c : TT} {t u : TS} {D : Ends} {σ : L2.St} {H : Hp} (P : Hp → Prop) (hc : ∀ QB : Bool → Hp → Prop, (∀ H', P H' → QB false H') → c σ H QB) (h : ∀ H', P H' → u D σ H') : tIfS c t u D σ H := hc _ fun H' p => a_ff (h H' p)
end R
namespace R
open PySem PySem.Spec PyProof.Rows L2
theorem q_F {p : Prop} [Decidable p] {QB : Bool → Hp → Prop} {H : Hp} (hq : QB false H) (hp : ¬ p) : QB (decide p) H := by rw [decide_eq_false hp]; exact hq
theorem q_T {p : Prop} [Decidable p] {QB : Bool → Hp → Prop} {H : Hp} (hq : QB true H) (hp : p) : QB (decide p) H := by rw [decide_eq_true hp]; exact hq
theorem q_nT {p : Prop} [Decidable p] {QB : Bool → Hp → Prop} {H : Hp} (hq : QB false H) (hp : p) : QB (!decide p) H := by rw [decide_eq_true hp]; exact hq
theorem q_nF {p : Prop} [Decidable p] {QB : Bool → Hp → Prop} {H : Hp} (hq : QB true H) (hp : ¬ p) : QB (!decide p) H := by rw [decide_eq_false hp]; exact hq
end R
namespace R
open PySem PySem.Spec PyProof.Rows L2
/-- while: W by a measure -/
theorem a_while {c : TT} {tb : TS} {D : Ends} {σ : L2.St} {H : Hp} (W : Nat → L2.St → Hp → Prop) (h0 : ∃ m, W m σ H)
    (hs : ∀ m σ H, W m σ H → c σ H fun b H1 => if b = true then (∃ N : L2.St → Hp → Prop, (∀ σ' H', N σ' H' → ∃ m', m' < m ∧ W m' σ' H') ∧ tb { D with nx := N, ct := N, bk := D.nx } σ H1) else D.nx σ H1) : tWhile c tb D σ H := ⟨W, h0, hs⟩
theorem a_turn {tb : TS} {D : Ends} {σ : L2.St} {H1 : Hp} {m : Nat} {W : Nat → L2.St → Hp → Prop} (h : tb { D with nx := fun σ' H' => ∃ m', m' < m ∧ W m' σ' H', ct := fun σ' H' => ∃ m', m' < m ∧ W m' σ' H', bk := D.nx } σ H1) :
    ∃ N : L2.St → Hp → Prop, (∀ σ' H', N σ' H' → ∃ m', m' < m ∧ W m' σ' H') ∧ tb { D with nx := N, ct := N, bk := D.nx } σ H1 := ⟨_, fun _ _ h => h, h⟩
end R
namespace R
open PySem PySem.Spec PyProof.Rows L2
open PySem.W (Frag)
section
variable {K : Frag} {tr : TA} {tl : TE} {σ : L2.St} {H : Hp} {RR : It → Hp → Prop}
theorem a_enum {tr : TA} (h : tr σ H fun vs H1 => ∃ a xs, vs = [.ref a] ∧ SqL K H1 a xs ∧ RR (Ite K a) H1) : iEnum K tr σ H RR := h
theorem a_iL (h : tl σ H fun x H1 => ∃ a, x = .ref a ∧ (∃ xs, SqL K H1 a xs) ∧ RR (Itl K a) H1) : iList K tl σ H RR := h
theorem a_iT (h : tl σ H fun x H1 => ∃ a, x = .ref a ∧ (∃ xs, SqT K H1 a xs) ∧ RR (Itt K a) H1) : iTup K tl σ H RR := h
end
end R
namespace R
open PySem PySem.Spec PyProof.Rows L2
open PySem.W (Frag)
section
variable {K : Frag} {te : TE} {σ : L2.St} {H B : Hp} {Q : VK} {Lw : List (Addr × HO)} {a : Addr} {xs : List V}
def rRev (K : Frag) : V → Hp → VK → Prop := fun x H Q => ∃ a xs, x = .ref a ∧ SqL K H a xs ∧ ∀ p, H p = none → Q (.ref p) (upd H p (.lst xs.reverse))
theorem a_rev (h : te σ H fun x H1 => rRev K x H1 Q) : tRevL K te σ H Q := h
theorem a_revL (O : Own B Lw H) (hs : SqL K H a xs) (q : ∀ p H', H p = none → Own B ((p, .lst xs.reverse) :: Lw) H' → Q (.ref p) H') : rRev K (.ref a) H Q := ⟨a, xs, rfl, hs, fun p hp => q p _ hp (O.new hp)⟩
end
end R
namespace R
open PySem PySem.Spec PyProof.Rows L2
open PySem.W (Frag)
/-! ### within a comprehension: the frag named -/
theorem pe_fldK {X : Cx} {K : Frag} {e : Expr} {f : Str} {pos : Pos} {ta : TE} (he : PE X e ta) (hb : attributeBase e f X.env (eval e X.env) = eval e X.env) (hK : X.K = K := by rfl) : PE X (.Attribute e f pos) (tFld K ta f) := by
  subst hK; exact pe_fld he hb
theorem pg_tupK {X : Cx} {K : Frag} {pos : Pos} {es : List Expr} {k : Nat} {t : TGs} {n : Nat} (hc : X.calm = true) (h : PGs X es t) (hK : X.K = K := by rfl) (hn : (assignEach es X.env).length = n := by rfl) (hst : (assignEach es X.env).findIdx? (·.1) = none := by rfl) : PG X (.Tuple es k pos) (gTup K n t) := by
  subst hK; exact pg_tup hc h hn hst
end R

namespace R
/-! ## the first one of a row -/
theorem find_more {α : Type} {g : Nat → Option α} {i : Nat} (h : (List.range i).findSome? g = none) (e : g i = none) : (List.range (i + 1)).findSome? g = none := by
  rw [List.range_succ, List.findSome?_append, h]
  simp [e]
theorem find_hit {α : Type} {g : Nat → Option α} {i : Nat} {x : α} (h : (List.range i).findSome? g = none) (e : g i = some x) : ∀ n : Nat, i < n → (List.range n).findSome? g = some x := by
  intro n
  induction n with
  | zero => intro z; omega
  | succ n ih =>
    intro z
    rw [List.range_succ, List.findSome?_append]
    by_cases q : i = n
    · rw [← q, h]; simp [e]
    · rw [ih (by omega)]; rfl
theorem pow_bits {b : Int} {n m : Nat} (h0 : 0 ≤ b) (h1 : b ≤ 16) (hn : n ≤ m) : (b ^ n).natAbs < 2 ^ (4 * m + 1) := by
  rw [Int.natAbs_pow]
  have e1 : b.natAbs ≤ 16 := by omega
  have e2 : b.natAbs ^ n ≤ 16 ^ n := Nat.pow_le_pow_left e1 n
  have e3 : (16 : Nat) ^ n = 2 ^ (4 * n) := by rw [Nat.pow_mul]
  have e4 : (2 : Nat) ^ (4 * n) ≤ 2 ^ (4 * m) := Nat.pow_le_pow_right (by decide) (by omega)
  have e5 : (2 : Nat) ^ (4 * m + 1) = 2 ^ (4 * m) * 2 := Nat.pow_succ ..
  have e6 : 0 < (2 : Nat) ^ (4 * m) := Nat.pow_pos (by decide)
  omega
end R
namespace R
theorem find_ext {α : Type} {g : Nat → Option α} {n : Nat} : ∀ m : Nat, n ≤ m → (∀ i, n ≤ i → i < m → g i = none) → (List.range m).findSome? g = (List.range n).findSome? g := by
  intro m
  induction m with
  | zero => intro h _; rw [Nat.le_zero.mp h]
  | succ m ih =>
    intro h k
    by_cases e : n = m + 1
    · rw [e]
    · rw [List.range_succ, List.findSome?_append, ih (by omega) fun i h1 h2 => k i h1 (by omega)]
      simp [k m (by omega) (by omega)]
theorem find_same {α : Type} {g g' : Nat → Option α} : ∀ n : Nat, (∀ i, i < n → g i = g' i) → (List.range n).findSome? g = (List.range n).findSome? g' := by
  intro n
  induction n with
  | zero => intro _; rfl
  | succ n ih =>
    intro k
    rw [List.range_succ, List.findSome?_append, List.findSome?_append, ih fun i h => k i (by omega)]
    simp [k n (by omega)]
/-- the first hit: all of the rows ahead of i, and j of row i -/
def fst2 (h : Nat → Nat → Option Int) (B i j : Nat) : Option (Nat × Int) :=
  ((List.range i).findSome? fun p => ((List.range B).findSome? (h p)).map fun x => (p, x)).or (((List.range j).findSome? (h i)).map fun x => (i, x))
theorem fst2_yes {h : Nat → Nat → Option Int} {B i j : Nat} {x : Int} (e : h i j = some x) : fst2 h B i (j + 1) = (fst2 h B i j).or (some (i, x)) := by
  unfold fst2
  rw [List.range_succ, List.findSome?_append]
  cases (List.range i).findSome? fun p => ((List.range B).findSome? (h p)).map fun x => (p, x) <;> cases (List.range j).findSome? (h i) <;> simp [e]
theorem fst2_no {h : Nat → Nat → Option Int} {B i j : Nat} (e : h i j = none) : fst2 h B i (j + 1) = fst2 h B i j := by
  unfold fst2
  rw [List.range_succ, List.findSome?_append]
  cases (List.range j).findSome? (h i) <;> simp [e]
theorem fst2_row {h : Nat → Nat → Option Int} {B i : Nat} : fst2 h B (i + 1) 0 = fst2 h B i B := by
  unfold fst2
  rw [List.range_succ, List.findSome?_append]
  simp
theorem fst2_all {h : Nat → Nat → Option Int} {B i : Nat} : fst2 h B i 0 = (List.range i).findSome? fun p => ((List.range B).findSome? (h p)).map fun x => (p, x) := by
  unfold fst2
  simp
theorem head_snoc {α : Type} (ps : List α) (x : α) : (ps ++ [x]).head? = ps.head?.or (some x) := by
  cases ps <;> rfl
end R

namespace R
open PySem PySem.Spec PyProof.Rows L2
open PySem.W (Frag)
/-! ## lists and tuples as data -/
theorem canAll_map {α : Type} {f : α → PyData} (h : ∀ a, (f a).canLay0 = true) : ∀ l : List α, PyData.canLayAll0 (l.map f) = true
  | [] => rfl
  | a :: l => by
    show ((f a).canLay0 && PyData.canLayAll0 (l.map f)) = true
    rw [h a, canAll_map h l]; rfl
theorem depthAll_map {α : Type} {f : α → PyData} {n : Nat} (h : ∀ a, (f a).depth ≤ n) : ∀ l : List α, PyData.depthAll (l.map f) ≤ n
  | [] => Nat.zero_le _
  | a :: l => by
    have h1 := h a
    have h2 := depthAll_map h l
    show max (f a).depth (PyData.depthAll (l.map f)) ≤ n
    omega
theorem dpAll_map {α : Type} {K : Frag} {H : Hp} {g : α → V} {f : α → PyData} (h : ∀ a, Dp K H (g a) (f a)) : ∀ l : List α, DpAll K H (l.map g) (l.map f)
  | [] => .nil
  | a :: l => .cons (h a) (dpAll_map h l)
theorem shaped_of {d : PyData} (h1 : d.canLay0 = true) (h2 : d.depth ≤ 64) : SeqAt.shaped d = true := by
  unfold SeqAt.shaped
  rw [h1, decide_eq_true h2]; rfl
/-- a list of ints -/
def pyL (ns : List Int) : PyData := .list (ns.map .int)
def pyT (ns : List Int) : PyData := .tuple (ns.map .int)
theorem can_pyL (ns : List Int) : (pyL ns).canLay0 = true := canAll_map (fun _ => rfl) ns
theorem can_pyT (ns : List Int) : (pyT ns).canLay0 = true := canAll_map (fun _ => rfl) ns
theorem dep_pyL (ns : List Int) : (pyL ns).depth ≤ 1 := by
  have h := depthAll_map (f := PyData.int) (n := 0) (fun _ => Nat.le_refl 0) ns
  show PyData.depthAll (ns.map .int) + 1 ≤ 1
  omega
theorem dep_pyT (ns : List Int) : (pyT ns).depth ≤ 1 := by
  have h := depthAll_map (f := PyData.int) (n := 0) (fun _ => Nat.le_refl 0) ns
  show PyData.depthAll (ns.map .int) + 1 ≤ 1
  omega
section
variable {K : Frag} {H : Hp} {x y : V} {Q : VK} {d : PyData} {a b : Addr} {ns : List Int}
theorem dp_pyL (h : SqL K H a (ns.map V.int)) : Dp K H (.ref a) (pyL ns) := .lst h (dpAll_map (fun i => .int i) ns)
theorem dp_pyT (h : SqT K H a (ns.map V.int)) : Dp K H (.ref a) (pyT ns) := .tup h (dpAll_map (fun i => .int i) ns)
theorem a_eqD (hx : Dp K H x d) (hy : Dp K H y d) (h1 : d.canLay0 = true) (h2 : d.depth ≤ 64) (h : Q (.bl true) H) : rEqD K x y H Q :=
  ⟨d, d, hx, hy, shaped_of h1 h2, shaped_of h1 h2, by rw [SeqAt.eqv_refl d h1]; exact h⟩
theorem a_neD (hx : Dp K H x d) (hy : Dp K H y d) (h1 : d.canLay0 = true) (h2 : d.depth ≤ 64) (h : Q (.bl false) H) : rNeD K x y H Q :=
  ⟨d, d, hx, hy, shaped_of h1 h2, shaped_of h1 h2, by rw [SeqAt.eqv_refl d h1]; exact h⟩
theorem a_eqL (hx : SqL K H a (ns.map V.int)) (hy : SqL K H b (ns.map V.int)) (h : Q (.bl true) H) : rEqD K (.ref a) (.ref b) H Q := a_eqD (dp_pyL hx) (dp_pyL hy) (can_pyL ns) (Nat.le_trans (dep_pyL ns) (by decide)) h
theorem a_neL (hx : SqL K H a (ns.map V.int)) (hy : SqL K H b (ns.map V.int)) (h : Q (.bl false) H) : rNeD K (.ref a) (.ref b) H Q := a_neD (dp_pyL hx) (dp_pyL hy) (can_pyL ns) (Nat.le_trans (dep_pyL ns) (by decide)) h
theorem a_eqT (hx : SqT K H a (ns.map V.int)) (hy : SqT K H b (ns.map V.int)) (h : Q (.bl true) H) : rEqD K (.ref a) (.ref b) H Q := a_eqD (dp_pyT hx) (dp_pyT hy) (can_pyT ns) (Nat.le_trans (dep_pyT ns) (by decide)) h
theorem a_neT (hx : SqT K H a (ns.map V.int)) (hy : SqT K H b (ns.map V.int)) (h : Q (.bl false) H) : rNeD K (.ref a) (.ref b) H Q := a_neD (dp_pyT hx) (dp_pyT hy) (can_pyT ns) (Nat.le_trans (dep_pyT ns) (by decide)) h
end
end R
namespace R
open PySem PySem.Spec PyProof.Rows L2
open PySem.W (Frag)
theorem dpAll_snoc {K : Frag} {H : Hp} {v : V} {d : PyData} (h : Dp K H v d) : ∀ {vs : List V} {ds : List PyData}, DpAll K H vs ds → DpAll K H (vs ++ [v]) (ds ++ [d])
  | _, _, .nil => .cons h .nil
  | _, _, .cons h1 h2 => .cons h1 (dpAll_snoc h h2)
theorem dpAll_len {K : Frag} {H : Hp} : ∀ {vs : List V} {ds : List PyData}, DpAll K H vs ds → vs.length = ds.length
  | _, _, .nil => rfl
  | _, _, .cons _ h2 => by rw [List.length_cons, List.length_cons, dpAll_len h2]
/-- a pair of ints -/
def pyP (p : Nat × Int) : PyData := .tuple [.int p.1, .int p.2]
theorem can_pyP (p : Nat × Int) : (pyP p).canLay0 = true := rfl
theorem dep_pyP (p : Nat × Int) : (pyP p).depth ≤ 1 := Nat.le_refl 1
theorem dp_pyP {K : Frag} {H : Hp} {a : Addr} {p : Nat × Int} (h : SqT K H a [.int p.1, .int p.2]) : Dp K H (.ref a) (pyP p) := .tup h (.cons (.int _) (.cons (.int _) .nil))
/-- != by data that is not the same -/
theorem a_neD' {K : Frag} {H : Hp} {x y : V} {Q : VK} {d e : PyData} (hx : Dp K H x d) (hy : Dp K H y e) (h1 : d.canLay0 = true) (h2 : d.depth ≤ 64) (h3 : e.canLay0 = true) (h4 : e.depth ≤ 64) (n : PyData.eqv d e = false) (h : Q (.bl true) H) : rNeD K x y H Q :=
  ⟨d, e, hx, hy, shaped_of h1 h2, shaped_of h3 h4, by rw [n]; exact h⟩
theorem a_eqD' {K : Frag} {H : Hp} {x y : V} {Q : VK} {d e : PyData} (hx : Dp K H x d) (hy : Dp K H y e) (h1 : d.canLay0 = true) (h2 : d.depth ≤ 64) (h3 : e.canLay0 = true) (h4 : e.depth ≤ 64) (n : PyData.eqv d e = false) (h : Q (.bl false) H) : rEqD K x y H Q :=
  ⟨d, e, hx, hy, shaped_of h1 h2, shaped_of h3 h4, by rw [n]; exact h⟩
end R

/-! ## enumerate(a tuple) -/
namespace PySem
namespace EnT
open PySem.W PySem.Calls PyProof.Rows
set_option maxHeartbeats 4000000
theorem meets_new1 {src : Value} {itO : Obj} {Hx : Heap → Prop} (B : Begins src itO Hx) :
    Meets (Builtin.«enumerate.__new__» ⟨[.type "enumerate", src], []⟩) (fun _ R s => Hx s.heap ∧
      R (.ok (.ret (.ref (s.heap.push itO).objs.size))) { s with heap := (s.heap.push itO).push { cls := .type "enumerate", data := .fields #[.none, .bool false, .ref s.heap.objs.size, rawInt 0, .none, .none] } }) := by
  refine .of_wp fun prog w A R s h => ?_
  obtain ⟨hp0, gn, dr, tks, osx⟩ := s
  obtain ⟨hH, hR⟩ := h
  have hsub := sub_enumerate
  have stp : ∀ {A' : Around} {E : Value → Shared → Prop} {Q : Value → Shared → Prop}, Q (.ref hp0.objs.size) ⟨hp0.push itO, gn, dr, tks, osx⟩ →
      wpAny (model prog w) A' (pyIter src) Q E ⟨hp0, gn, dr, tks, osx⟩ := fun q => B.iter prog w _ _ ⟨hp0, gn, dr, tks, osx⟩ _ hH q
  wp_walk using stp
  refine wpAny_stack_any fun st => wpAny_pure ?_
  split
  · rename_i c _ _ _ _ _
    cases (c == Value.type "enumerate") <;> (wp_walk using stp; exact ⟨_, rfl, hR⟩)
  · wp_walk using stp
    exact ⟨_, rfl, hR⟩
theorem call_new1 {prog : Program} {w : World} {A : Around} {E : Value → Shared → Prop} {s : Shared} {src : Value} {itO : Obj} {Hx : Heap → Prop} {Q : Value → Shared → Prop} (B : Begins src itO Hx) (hH : Hx s.heap)
    (h : ∀ h', IsEnum h' (s.heap.objs.size + 1) s.heap.objs.size 0 .none → h'.get? s.heap.objs.size = some itO → h'.objs.size = s.heap.objs.size + 2 →
      (∀ b o, s.heap.get? b = some o → h'.get? b = some o) → Q (.ref (s.heap.objs.size + 1)) { s with heap := h' }) :
    wpAny (model prog w) A (call (.type "enumerate") [src]) Q E s := by
  have z : (s.heap.push itO).objs.size = s.heap.objs.size + 1 := Heap.size_push ..
  refine callType_new F.called_enumerate (by decide) (F.typeCall_enumerate_1 _) (F.newCall_enumerate_1 _) (fun obj => F.args_object_init_2 obj _) F.entry_enumerate_new (meets_new1 B) ⟨hH, ?_⟩
  show _ ∧ _
  rw [z]
  have en : IsEnum ((s.heap.push itO).push { cls := .type "enumerate", data := .fields #[.none, .bool false, .ref s.heap.objs.size, rawInt 0, .none, .none] }) (s.heap.objs.size + 1) s.heap.objs.size 0 .none := by
    have q := Heap.get?_push_size (s.heap.push itO) (o := { cls := .type "enumerate", data := .fields #[.none, .bool false, .ref s.heap.objs.size, rawInt 0, .none, .none] }) rfl
    rw [z] at q
    exact q
  exact ⟨⟨_, en, rfl⟩, h _ en (Heap.get?_push_of_some _ (Heap.get?_push_size _ B.free)) (by rw [Heap.size_push, z]) fun b o x => Heap.get?_push_of_some _ (Heap.get?_push_of_some _ x)⟩
theorem end2 {prog : Program} {w : World} {A : Around} {E : Value → Shared → Prop} {s : Shared} {e it a : Addr} {i : Int} {j : Nat} {its : Array Value} {old : Value} {Q : Option Value → Shared → Prop} (hh : A.handled = none)
    (hen : IsEnum s.heap e it i old) (hti : s.heap.IsTupleIter it a j) (tp : s.heap.IsTuple a its) (hx : its[j]? = none)
    (k : ∀ h', Heap.ExtBut it s.heap h' → Q none { s with heap := h' }) : wpAny (model prog w) A (pyNext (.ref e)) Q E s := by
  have ty : s.TypeIs (.ref e) "enumerate" := ⟨_, hen, rfl⟩
  unfold pyNext
  refine wpAny_bind (wpAny_attempt (wpAny_callSpecial?_slot (name := Str.ofString "__next__") ty F.slot_enumerate_next ?_))
  refine wpAny_call_entry F.slot_enumerate_next ty F.entry_enumerate_next ?_ (F.args_enumerate_next_1 _)
  show wpAny _ _ (field (.ref e) 2 >>= _) _ _ _
  refine wpAny_bind (wpAny_field hen rfl (x := .ref it) rfl (wpAny_bind (wpAny_nextOf_tuple_end hh hti tp hx fun h' x eb hxo => ?_)))
  obtain ⟨ob, hob, hcl⟩ := hxo
  exact wpAny_bind (wpAny_isInstance (T := "StopIteration") (b := true) ⟨ob, hob, hcl⟩ isSubtype_stop (wpAny_pure (k _ eb)))
end EnT
end PySem
namespace R
open PySem PySem.Spec PyProof.Rows L2
open PySem.W (Frag)
/-- the tuple at a, each item in a new pair -/
def IteT (K : Frag) (a : Addr) : It :=
  ⟨fun i H => ∃ (xs : List V) (x : V), SqT K H a xs ∧ xs[i]? = some x,
   fun i H v H' => ∃ T x, v = .ref T ∧ H T = none ∧ H' = upd H T (.tup [.int (i : Nat), x]) ∧ ∀ xs, SqT K H a xs → xs[i]? = some x,
   fun i H => ∃ xs : List V, SqT K H a xs ∧ xs.length ≤ i⟩
theorem apart_ti {h : Heap} {a it : Addr} {i : Nat} {its : Array Value} (t : h.IsTuple a its) (j : h.IsTupleIter it a i) : a ≠ it := by
  intro z
  obtain ⟨o1, q1, c1, _⟩ := t
  obtain ⟨o2, q2, c2, _⟩ := j
  rw [z, q2] at q1
  cases q1
  rw [c1] at c2
  exact absurd c2 (by decide)
theorem apart_te {h : Heap} {a e it : Addr} {i : Int} {old : Value} {its : Array Value} (t : h.IsTuple a its) (j : IsEnum h e it i old) : e ≠ a := by
  intro z
  obtain ⟨o1, q1, c1, _⟩ := t
  have q2 : h.get? e = some _ := j
  rw [← z, q2] at q1
  cases q1
  exact absurd (show Value.type "enumerate" = Value.type "tuple" from c1) (by decide)
theorem turn_enumT {P : Program} {w : World} {K : Frag} {elts : List Expr} {kk : Nat} {tpos : Pos} (a e it : Addr) :
    Turn P w K (.Tuple elts kk tpos) (IteT K a) [e, it] e (fun i h => (∃ old, IsEnum h e it ((i : Nat) : Int) old) ∧ h.IsTupleIter it a i ∧ e ≠ it) where
  mem := List.mem_cons_self
  obj := fun i h st b hb => by
    obtain ⟨⟨old, hen⟩, ⟨ob, hob, hcl, hdt⟩, _⟩ := st
    rcases List.mem_cons.mp hb with rfl | hb
    · exact ⟨_, hen, fun v q => nomatch q⟩
    · have z : b = it := by simpa using hb
      subst z
      exact ⟨ob, hob, fun v q => by rw [hdt] at q; cases q⟩
  keep := fun i h h' st k => by
    obtain ⟨⟨old, hen⟩, hti, ne⟩ := st
    exact ⟨⟨old, k e (by simp) _ hen⟩, hti.at fun o q => k it (by simp) o q, ne⟩
  item := by
    intro X hP hw hK hc i pins s σ H E I hf st hg
    subst hP hw hK
    obtain ⟨⟨old, hen⟩, hti, ne⟩ := st
    obtain ⟨xs, x, sq, hx⟩ := hg
    obtain ⟨its, rv, tp, _⟩ := I.tuple sq
    obtain ⟨u0, hu0, ru0⟩ := rv.get hx
    have tp' : s.heap.IsTuple a its.toArray := tp
    have n1 := apart_ti tp' hti
    have n2 := apart_te tp' hen
    have le1 : e < s.heap.objs.size := Heap.lt_size hen
    have le2 : it < s.heap.objs.size := by
      obtain ⟨_, q, _⟩ := hti
      exact Heap.lt_size q
    have hi : i < its.toArray.size := by
      obtain ⟨q, _⟩ := List.getElem?_eq_some_iff.mp hu0
      simpa using q
    refine wpAny_pyNext_enum_itemD (Draws.tuple (A := X.A.in1) (show X.A.in1.handled = none from I.ok.hd hc) it a n1 its.toArray) hen ⟨hti, tp'⟩ hi ne (by simp [ne, n2]) fun v h' tk hv hout hst hT _ hk => ?_
    have ev : v = u0 := by
      have q : its.toArray[i]? = some u0 := by simpa using hu0
      rw [q] at hv
      exact (Option.some.inj hv).symm
    subst ev
    refine ⟨_, rfl, wpAny_letOwnedTupleGo_enum (s := { s with heap := h', toks := tk + 1 }) hout fun h'' hen' sb => ?_⟩
    have hT2 : h''.get? s.heap.objs.size = some { cls := .type "tuple", data := .seq #[.int i tk, v] } := (sb.2 _ (Nat.ne_of_gt le1)).trans hT
    have kp : ∀ b ob, b ∉ [e, it] → s.heap.get? b = some ob → h''.get? b = some ob := fun b ob hb q => by
      have q1 : b ≠ e := fun z => hb (by simp [z])
      have q2 : b ≠ it := fun z => hb (by simp [z])
      exact (sb.2 b q1).trans (hk b ob q1 q2 q)
    have nw : ObjOk X.prog X.w (upd H s.heap.objs.size (.tup [.int (i : Nat), x])) h'' s.heap.objs.size (.tup [.int (i : Nat), x]) :=
      ⟨(by show 2 ≤ sizeLine; decide), [.int i tk, v], .cons ⟨_, rfl⟩ (.cons ru0 .nil), ⟨_, hT2, rfl, _, rfl⟩⟩
    have J : Inv X pins σ (upd H s.heap.objs.size (.tup [.int (i : Nat), x])) { s with heap := h'', toks := tk + 1 } := I.turnedNew (ch := [e, it]) kp hf (Nat.le_refl _) nw
    refine ⟨.ref s.heap.objs.size, _, J, rfl, ⟨_, x, rfl, I.hok.fresh (Nat.le_refl _), rfl, fun ys hy => by rw [I.tuple_inj hy sq]; exact hx⟩, ⟨⟨v, ?_⟩, hst.1.at fun o q => (sb.2 it (Ne.symm ne)).trans q, ne⟩, fun b hb => ?_⟩
    · have e1 : ((i + 1 : Nat) : Int) = (i : Int) + 1 := by omega
      rw [e1]
      exact hen'
    · have lb : b < s.heap.objs.size := by
        rcases List.mem_cons.mp hb with z | hb
        · rw [z]; exact le1
        · have z : b = it := by simpa using hb
          rw [z]; exact le2
      rw [upd_ne (Nat.ne_of_lt lb)]
      exact (hf b hb).1
  done := by
    intro X hP hw hK hc i pins s σ H E I hf st hg
    subst hP hw hK
    obtain ⟨⟨old, hen⟩, hti, ne⟩ := st
    obtain ⟨xs, sq, hx⟩ := hg
    obtain ⟨its, rv, tp, _⟩ := I.tuple sq
    have tp' : s.heap.IsTuple a its.toArray := tp
    obtain ⟨f0, f1, f2, f3, f4, f5⟩ := hf it (by simp)
    have hl := rv.length
    refine EnT.end2 (I.ok.hd hc) hen hti tp' (by simp; omega) fun h' eb => ?_
    exact ⟨rfl, I.turned (t' := s.toks) (fun b o hb q => eb b o hb q) f0 f1 f3 f4 f5⟩
  self := fun A i s Q E st h => by
    obtain ⟨⟨_, hen⟩, _⟩ := st
    exact wpAny_pyIter_enum hen h
def iEnumT (K : Frag) (ta : TA) : TI := fun σ H RR => ta σ H fun vs H1 => ∃ a xs, vs = [.ref a] ∧ SqT K H1 a xs ∧ RR (IteT K a) H1
theorem pi_enumT {X : Cx} {e : Expr} {ta : TA} {p pos tpos : Pos} {elts : List Expr} {kk : Nat} (hg : Gl X "enumerate") (hm : X.mg "enumerate" = none) (ha : PA X [e] ta) (hs : starEach [e] X.env = [(false, eval e X.env)] := by rfl) :
    PI X (.Tuple elts kk tpos) (.Call (.Name "enumerate" p) [e] [] pos) (iEnumT X.K ta) := by
  refine ⟨fun pins s σ H RR I h => ?_⟩
  refine Call_ (ld_blt I hg hm boot_enumerate (PyProof.Rows.callWith_type1 (thn (ha.run pos pins s σ H _ I h) fun us s1 ⟨vs, H1, I1, r1, q1⟩ => ?_) hs rfl))
  obtain ⟨a, xs, ev, sq, q⟩ := q1
  subst ev
  obtain ⟨u, hu, ru⟩ := vals1 r1
  subst hu
  cases ru
  obtain ⟨its, rv, tp, _⟩ := I1.tuple sq
  have tp' : s1.heap.IsTuple a its.toArray := tp
  refine EnT.call_new1 (begins_tuple a its.toArray) tp' fun h' hen hit _ hk => wpAny_pyIter_enum hen ?_
  have J : Inv X pins σ H1 { s1 with heap := h' } := I1.kept (t' := s1.toks) hk
  refine ⟨s1.heap.objs.size + 1, [s1.heap.objs.size + 1, s1.heap.objs.size], _, _, H1, rfl, J, turn_enumT a (s1.heap.objs.size + 1) s1.heap.objs.size, ⟨⟨.none, hen⟩, ⟨_, hit, rfl, rfl⟩, Nat.succ_ne_self _⟩, fun b hb => ?_, q⟩
  have le : s1.heap.objs.size ≤ b := by
    rcases List.mem_cons.mp hb with z | hb
    · rw [z]; exact Nat.le_succ _
    · have z : b = s1.heap.objs.size := by simpa using hb
      rw [z]; exact Nat.le_refl _
  exact I1.fpOk le (I1.hok.fresh le)
theorem walk_enumT {K : Frag} {a : Addr} {xs : List V} : Walk (IteT K a) xs.length (fun H => SqT K H a xs) (YPair (fun i => some (.int (i : Nat))) (fun i => xs[i]?)) := by
  refine ⟨fun i _ hi q => ⟨xs, xs[i], q, by simp [hi]⟩, fun _ q => ⟨xs, q, Nat.le_refl _⟩, fun i H v H' _ q y => ?_⟩
  obtain ⟨T, x, h1, h2, h3, h4⟩ := y
  exact ⟨T, .int (i : Nat), x, h1, h2, h3, rfl, h4 xs q⟩
end R
namespace R
open PySem PySem.Spec PyProof.Rows L2
open PySem.W (Frag)
theorem a_enumT {K : Frag} {tr : TA} {σ : L2.St} {H : Hp} {RR : It → Hp → Prop} (h : tr σ H fun vs H1 => ∃ a xs, vs = [.ref a] ∧ SqT K H1 a xs ∧ RR (IteT K a) H1) : iEnumT K tr σ H RR := h
end R

/-! ## fields of an own instance -/
namespace R
open PySem PySem.Spec PyProof.Rows L2
open PySem.W (Frag)
def rFld (K : Frag) (f : Str) : V → Hp → VK → Prop := fun x H Q => ∃ a C dx fs v, x = .ref a ∧ H a = some (.ins C dx fs) ∧ Cls K C ∧ NoAttr K C f ∧ fs.lookup f = some v ∧ Q v H
def rSetF (K : Frag) (f : Str) : V → V → Hp → (Hp → Prop) → Prop := fun x y H P => ∃ a C dx fs, x = .ref a ∧ H a = some (.ins C dx fs) ∧ Cls K C ∧ NoAttr K C f ∧ fs.length < 1000 ∧ P (upd H a (.ins C dx (putF f y fs)))
def NewI (C : Addr) (sp : Sp) (dvs : List V) (E : XK) (vs : List V) (H : Hp) (Q : VK) : Prop := ∀ x dx, H x = none → H dx = none → dx ≠ x →
  sp (.ref x :: (vs ++ dvs)) (upd (upd H dx (.own x)) x (.ins C dx [])) (fun v H2 => v = .non ∧ Q (.ref x) H2) E
section
variable {K : Frag} {f g : Str} {ta tv : TE} {σ : L2.St} {H B : Hp} {Q : VK} {D : Ends} {Lw : List (Addr × HO)} {a C dx : Addr} {fs : List (Str × V)} {v y : V}
theorem a_fld (h : ta σ H fun x H1 => rFld K f x H1 Q) : tFld K ta f σ H Q := h
theorem a_sfld (h : tv σ H fun y H1 => ta σ H1 fun x H2 => rSetF K f x y H2 fun H3 => D.nx σ H3) : sFld K ta tv f D σ H := h
theorem a_getF (h : H a = some (.ins C dx fs)) (cl : Cls K C) (n : NoAttr K C f) (hl : fs.lookup f = some v) (q : Q v H) : rFld K f (.ref a) H Q := ⟨a, C, dx, fs, v, rfl, h, cl, n, hl, q⟩
theorem a_setF {P : Hp → Prop} (O : Own B Lw H) (i : Nat) (h : Lw[i]? = some (a, .ins C dx fs)) (cl : Cls K C) (n : NoAttr K C f) (hl : fs.length < 1000) (q : ∀ H', Own B (Lw.set i (a, .ins C dx (putF f y fs))) H' → P H') : rSetF K f (.ref a) y H P :=
  ⟨a, C, dx, fs, rfl, O.get i h, cl, n, hl, q _ (O.put i h)⟩
theorem lk_eq : ((f, v) :: fs).lookup f = some v := by
  have hb : (f == f) = true := beq_iff_eq.mpr rfl
  simp only [List.lookup, hb]
theorem lk_ne (h : ¬ f = g) : ((g, v) :: fs).lookup f = fs.lookup f := by
  have hb : (f == g) = false := beq_eq_false_iff_ne.mpr h
  simp only [List.lookup, hb]
theorem put_ne (h : ¬ g = f) : putF f y ((g, v) :: fs) = (g, v) :: putF f y fs := by
  show (if g = f then (g, y) :: fs else (g, v) :: putF f y fs) = _
  rw [if_neg h]
theorem put_eq : putF f y ((f, v) :: fs) = (f, y) :: fs := by
  show (if f = f then (f, y) :: fs else (f, v) :: putF f y fs) = _
  rw [if_pos rfl]
theorem put_nil : putF f y [] = [(f, y)] := rfl
/-- a new instance -/
theorem a_make {sp : Sp} {dvs : List V} {E : XK} {t : TA} (h : t σ H fun vs H1 => NewI C sp dvs E vs H1 Q) : tMake C sp dvs E t σ H Q := h
end
end R

namespace R
open PySem PySem.Spec PyProof.Rows L2
open PySem.W (Frag)
variable {K : Frag} {v : V} {σ : L2.St} {H : Hp}
theorem a_glst {n : Nat} {gs : TGs} {p : Addr} {xs : List V} {Qs : L2.St → Hp → Prop} (hs : SqL K H p xs) (hl : xs.length = n) (h : gs xs σ H Qs) : gLst K n gs (.ref p) σ H Qs := ⟨p, xs, rfl, hs, hl, h⟩
theorem pg_lstK {X : Cx} {pos : Pos} {es : List Expr} {k : Nat} {t : TGs} {n : Nat} (hc : X.calm = true) (h : PGs X es t) (hK : X.K = K := by rfl) (hn : (assignEach es X.env).length = n := by rfl) (hst : (assignEach es X.env).findIdx? (·.1) = none := by rfl) : PG X (.Tuple es k pos) (gLst K n t) := by
  subst hK; exact pg_lst hc h hn hst
end R

/-! ## the numbers behind, and the first that fail -/
namespace R
open PySem PySem.Spec PyProof.Rows L2
open PySem.W (Frag)
/-- what a trick makes of n -/
def beh (b k t n : Int) : Int := n / b ^ k.toNat + t * (n % b ^ k.toNat)
/-- a number or None -/
def optV : Option Int → V
  | none => .non
  | some n => .int n
/-- the least number below i with p -/
def fstB (p : Int → Bool) (i : Nat) : Option Int := (List.range i).findSome? fun (j : Nat) => if p j = true then some (j : Int) else none
theorem fstB_zero {p : Int → Bool} : fstB p 0 = none := rfl
theorem fstB_step {p : Int → Bool} {i : Nat} : fstB p (i + 1) = (fstB p i).or (if p i = true then some (i : Int) else none) := by
  unfold fstB
  rw [List.range_succ, List.findSome?_append]
  congr 1
  cases c : p (i : Int) <;> simp [List.findSome?, c]
theorem fstB_yes {p : Int → Bool} {i : Nat} (h : fstB p i = none) (e : p i = true) : fstB p (i + 1) = some (i : Int) := by rw [fstB_step, h, if_pos e]; rfl
theorem fstB_no {p : Int → Bool} {i : Nat} (h : fstB p i = none) (e : p i = false) : fstB p (i + 1) = none := by rw [fstB_step, h, e]; rfl
theorem fstB_old {p : Int → Bool} {i : Nat} {x : Int} (h : fstB p i = some x) : fstB p (i + 1) = some x := by rw [fstB_step, h]; rfl
theorem fstB_hit {p : Int → Bool} {i : Nat} (h : fstB p i = none) (e : p i = true) : ∀ n : Nat, i < n → fstB p n = some (i : Int) := find_hit h (if_pos e)
theorem fstB_none {p : Int → Bool} {n : Nat} (h : fstB p n = none) {x : Int} (h0 : 0 ≤ x) (h1 : x < n) : p x = false := by
  unfold fstB at h
  rw [List.findSome?_eq_none_iff] at h
  have q := h x.toNat (List.mem_range.mpr (by omega))
  have e : ((x.toNat : Nat) : Int) = x := by omega
  rw [e] at q
  cases c : p x with
  | false => rfl
  | true => rw [if_pos c] at q; cases q
theorem fstB_some {p : Int → Bool} {n : Nat} {x : Int} (h : fstB p n = some x) : 0 ≤ x ∧ x < n ∧ p x = true := by
  unfold fstB at h
  obtain ⟨i, hi, e⟩ := List.exists_of_findSome?_eq_some h
  have h1 := List.mem_range.mp hi
  split at e
  · rename_i c
    cases e
    exact ⟨by omega, by omega, c⟩
  · cases e
/-- no rest is kept; a multiple and none -/
def unl (b k t d n : Int) : Bool := !decide (n % d = beh b k t n % d)
def fls (b k t d n : Int) : Bool := decide (n % d = 0) != decide (beh b k t n % d = 0)
theorem beh_turn {b k t d q m : Int} (hB : 0 < b ^ k.toNat) : beh b k t (q * (d * b ^ k.toNat) + m) = q * d + beh b k t m := by
  unfold beh
  generalize b ^ k.toNat = B at *
  have e : q * (d * B) + m = m + B * (q * d) := by
    rw [← Int.mul_assoc, Int.mul_comm (q * d) B]; omega
  rw [e, Int.add_mul_ediv_left _ _ (by omega), Int.add_mul_emod_self_left]
  omega
theorem turn_of {b k t d : Int} (hB : 0 < b ^ k.toNat) (hd : 0 < d) (n : Int) : ∃ m : Int, 0 ≤ m ∧ m < d * b ^ k.toNat ∧ n % d = m % d ∧ beh b k t n % d = beh b k t m % d := by
  have h : 0 < d * b ^ k.toNat := Int.mul_pos hd hB
  refine ⟨n % (d * b ^ k.toNat), Int.emod_nonneg _ (by omega), Int.emod_lt_of_pos _ h, ?_, ?_⟩
  · rw [Int.emod_emod_of_dvd _ (Int.dvd_mul_right d _)]
  · have e := Int.mul_ediv_add_emod n (d * b ^ k.toNat)
    rw [Int.mul_comm] at e
    have q := beh_turn (t := t) (d := d) (q := n / (d * b ^ k.toNat)) (m := n % (d * b ^ k.toNat)) hB
    rw [e] at q
    rw [q, Int.add_comm, Int.add_mul_emod_self_right]
theorem unl_all {b k t d : Int} (hB : 0 < b ^ k.toNat) (hd : 0 < d) (h : fstB (unl b k t d) (d * b ^ k.toNat).toNat = none) (n : Int) : unl b k t d n = false := by
  obtain ⟨m, h0, h1, e1, e2⟩ := turn_of (t := t) hB hd n
  have q := fstB_none h h0 (by omega)
  unfold unl at *
  rw [e1, e2]; exact q
theorem fls_all {b k t d : Int} (hB : 0 < b ^ k.toNat) (hd : 0 < d) (h : fstB (fls b k t d) (d * b ^ k.toNat).toNat = none) (n : Int) : fls b k t d n = false := by
  obtain ⟨m, h0, h1, e1, e2⟩ := turn_of (t := t) hB hd n
  have q := fstB_none h h0 (by omega)
  unfold fls at *
  rw [e1, e2]; exact q
section
variable {H : Hp} {Q : VK}
theorem a_neB {p q : Bool} (h : Q (.bl (p != q)) H) : rNe (.bl p) (.bl q) H Q := ⟨rfl, by rw [dec_bl]; exact h⟩
theorem a_eqB {p q : Bool} (h : Q (.bl (p == q)) H) : rEq (.bl p) (.bl q) H Q := ⟨rfl, by rw [dec_bl]; exact h⟩
theorem a_isO1 (h : Q (.bl true) H) : rIsN (optV none) .non H Q := a_isN1 h
theorem a_isO0 {n : Int} (h : Q (.bl false) H) : rIsN (optV (some n)) .non H Q := a_isN0 (fun z => by cases z) h
theorem a_notO1 (h : Q (.bl false) H) : rNotN (optV none) .non H Q := a_notN1 h
theorem a_notO0 {n : Int} (h : Q (.bl true) H) : rNotN (optV (some n)) .non H Q := a_notN0 (fun z => by cases z) h
theorem a_neO {o : Option Int} (h : Q (.bl false) H) : rNe (optV o) (optV o) H Q := by
  refine ⟨?_, ?_⟩
  · cases o <;> rfl
  · rw [decide_eq_true rfl]; exact h
end
end R
namespace R
open PySem PySem.Spec PyProof.Rows L2
theorem a_par3 {i j l : Nat} {tr : TA} {D : Ends} {σ : L2.St} {H : Hp} (h : tr σ H fun vs H1 => ∃ u v w, vs = [u, v, w] ∧ D.nx (((σ.set i (some u)).set j (some v)).set l (some w)) H1) : tPar3 i j l tr D σ H := h
theorem a_par33 {x y z : V} {A : V → V → V → Prop} (h : A x y z) : ∃ u v w, [x, y, z] = [u, v, w] ∧ A u v w := ⟨x, y, z, rfl, h⟩
end R

/-! ## when a trick tells -/
namespace R
open PySem PySem.Spec PyProof.Rows L2
theorem fstB_all {p : Int → Bool} : ∀ {n : Nat}, (∀ x, p x = false) → fstB p n = none
  | 0, _ => rfl
  | n + 1, h => fstB_no (fstB_all h) (h n)
theorem dvd_same {a b d : Int} (h : a % d = b % d) : d ∣ a - b := by
  refine Int.dvd_of_emod_eq_zero ?_
  rw [Int.sub_emod, h, Int.sub_self, Int.zero_emod]
theorem same_dvd {a b d : Int} (h : d ∣ a - b) : a % d = b % d := by
  obtain ⟨c, e⟩ := h
  have z : a = b + d * c := by omega
  rw [z, Int.add_mul_emod_self_left]
theorem zero_dvd' {a d : Int} : a % d = 0 ↔ d ∣ a := ⟨Int.dvd_of_emod_eq_zero, Int.emod_eq_zero_of_dvd⟩
theorem beh_mul {b k t d : Int} (hg : d ∣ t * b ^ k.toNat - 1) (n : Int) : d ∣ beh b k t n - t * n := by
  unfold beh
  generalize b ^ k.toNat = B at *
  have e := Int.mul_ediv_add_emod n B
  generalize n / B = q at *
  generalize n % B = r at *
  have z : q + t * r - t * n = -(q * (t * B - 1)) := by
    rw [← e, Int.mul_add, Int.mul_sub, Int.mul_one, ← Int.mul_assoc, Int.mul_comm q (t * B)]
    omega
  rw [z]
  exact Int.dvd_neg.mpr (Int.dvd_trans hg (Int.dvd_mul_left _ _))
theorem fls_false {b k t d n : Int} : fls b k t d n = false ↔ (d ∣ n ↔ d ∣ beh b k t n) := by
  unfold fls
  rw [← zero_dvd', ← zero_dvd']
  by_cases h1 : n % d = 0 <;> by_cases h2 : beh b k t n % d = 0 <;> simp [h1, h2]
theorem unl_false {b k t d n : Int} : unl b k t d n = false ↔ n % d = beh b k t n % d := by
  unfold unl
  by_cases h1 : n % d = beh b k t n % d <;> simp [h1]
theorem good_fls {b k t d : Int} (hg : d ∣ t * b ^ k.toNat - 1) (n : Int) : fls b k t d n = false := by
  have q := beh_mul hg n
  refine fls_false.mpr ⟨fun h => ?_, fun h => ?_⟩
  · have e : beh b k t n = (beh b k t n - t * n) + t * n := by omega
    rw [e]
    exact Int.dvd_add q (Int.dvd_trans h (Int.dvd_mul_left _ _))
  · have h1 : d ∣ t * n := by
      have e : t * n = beh b k t n - (beh b k t n - t * n) := by omega
      rw [e]
      exact Int.dvd_sub h q
    have h2 : d ∣ b ^ k.toNat * (t * n) := Int.dvd_trans h1 (Int.dvd_mul_left _ _)
    have h3 : d ∣ n * (t * b ^ k.toNat - 1) := Int.dvd_trans hg (Int.dvd_mul_left _ _)
    have e : n = b ^ k.toNat * (t * n) - n * (t * b ^ k.toNat - 1) := by
      rw [Int.mul_sub, Int.mul_one, ← Int.mul_assoc, Int.mul_comm n (t * b ^ k.toNat), Int.mul_comm (b ^ k.toNat) t]
      omega
    rw [e]
    exact Int.dvd_sub h2 h3
theorem fls_good {b k t d : Int} (hB : 2 ≤ b ^ k.toNat) (h : ∀ n, fls b k t d n = false) : d ∣ t * b ^ k.toNat - 1 := by
  have q := fls_false.mp (h (-t * b ^ k.toNat + 1))
  unfold beh at q
  generalize b ^ k.toNat = B at *
  have e1 : (-t * B + 1) / B = -t := by
    rw [Int.add_comm, Int.add_mul_ediv_right _ _ (by omega), Int.ediv_eq_zero_of_lt (by omega) (by omega), Int.zero_add]
  have e2 : (-t * B + 1) % B = 1 := by
    rw [Int.add_comm, Int.add_mul_emod_self_right]; exact Int.emod_eq_of_lt (by omega) (by omega)
  rw [e1, e2, Int.mul_one] at q
  have z : d ∣ -t + t := by
    rw [Int.add_left_neg]; exact Int.dvd_zero d
  have w := q.mpr z
  have e3 : t * B - 1 = -(-t * B + 1) := by
    rw [Int.neg_mul]; omega
  rw [e3]
  exact Int.dvd_neg.mpr w
theorem unl_good {b k t d : Int} (hB : 2 ≤ b ^ k.toNat) (h : ∀ n, unl b k t d n = false) : d ∣ t * b ^ k.toNat - 1 ∧ d ∣ b ^ k.toNat - 1 := by
  have q1 := unl_false.mp (h (b ^ k.toNat))
  have q2 := unl_false.mp (h 1)
  unfold beh at q1 q2
  generalize b ^ k.toNat = B at *
  rw [Int.ediv_self (by omega), Int.emod_self, Int.mul_zero, Int.add_zero] at q1
  rw [Int.ediv_eq_zero_of_lt (by omega) (by omega), Int.emod_eq_of_lt (a := 1) (b := B) (by omega) (by omega), Int.mul_one, Int.zero_add] at q2
  have d1 := dvd_same q1
  have d2 := dvd_same q2.symm
  refine ⟨?_, d1⟩
  have e : t * B - 1 = t * (B - 1) + (t - 1) := by
    rw [Int.mul_sub, Int.mul_one]; omega
  rw [e]
  exact Int.dvd_add (Int.dvd_trans d1 (Int.dvd_mul_left _ _)) d2
theorem good_unl {b k t d : Int} (hg : d ∣ t * b ^ k.toNat - 1) (h1 : d ∣ b ^ k.toNat - 1) (n : Int) : unl b k t d n = false := by
  have q := beh_mul hg n
  refine unl_false.mpr (same_dvd ?_)
  have e1 : t - 1 = (t * b ^ k.toNat - 1) - t * (b ^ k.toNat - 1) := by
    rw [Int.mul_sub, Int.mul_one]; omega
  have d2 : d ∣ t - 1 := by
    rw [e1]
    exact Int.dvd_sub hg (Int.dvd_trans h1 (Int.dvd_mul_left _ _))
  have e2 : n - beh b k t n = -((beh b k t n - t * n) + (t - 1) * n) := by
    rw [Int.sub_mul, Int.one_mul]; omega
  rw [e2]
  exact Int.dvd_neg.mpr (Int.dvd_add q (Int.dvd_trans d2 (Int.dvd_mul_right _ _)))
theorem fls_iff {b k t d : Int} (hB : 2 ≤ b ^ k.toNat) (hd : 0 < d) : fstB (fls b k t d) (d * b ^ k.toNat).toNat = none ↔ t * b ^ k.toNat % d = 1 % d :=
  ⟨fun h => same_dvd (fls_good hB (fls_all (by omega) hd h)), fun h => fstB_all (good_fls (dvd_same h))⟩
theorem unl_iff {b k t d : Int} (hB : 2 ≤ b ^ k.toNat) (hd : 0 < d) : fstB (unl b k t d) (d * b ^ k.toNat).toNat = none ↔ t * b ^ k.toNat % d = 1 % d ∧ b ^ k.toNat % d = 1 % d :=
  ⟨fun h => (unl_good hB (unl_all (by omega) hd h)).imp same_dvd same_dvd, fun h => fstB_all (good_unl (dvd_same h.1) (dvd_same h.2))⟩
/-- by what the rest is multiplied -/
def facO (b k t d : Int) : Option Int := if t * b ^ k.toNat % d = 1 % d then some (t % d) else none
theorem rest_mul {t B d : Int} : t % d * B % d = t * B % d := by rw [Int.mul_emod, Int.emod_emod, ← Int.mul_emod]
theorem good_gcd {t B d : Int} (h : t * B % d = 1 % d) : Int.gcd B d = 1 := by
  have q := dvd_same h
  have h1 : ((Int.gcd B d : Nat) : Int) ∣ t * B - 1 := Int.dvd_trans (Int.gcd_dvd_right _ _) q
  have h2 : ((Int.gcd B d : Nat) : Int) ∣ t * B := Int.dvd_trans (Int.gcd_dvd_left _ _) (Int.dvd_mul_left _ _)
  have e : ((1 : Nat) : Int) = t * B - (t * B - 1) := by omega
  have h3 : ((Int.gcd B d : Nat) : Int) ∣ ((1 : Nat) : Int) := by
    rw [e]; exact Int.dvd_sub h2 h1
  exact Nat.dvd_one.mp (Int.natCast_dvd_natCast.mp h3)
theorem fac_beh {b k t d : Int} (h : t * b ^ k.toNat % d = 1 % d) (n : Int) : beh b k t n % d = t % d * n % d := by
  rw [rest_mul]
  exact same_dvd (beh_mul (dvd_same h) n)
section
variable {H : Hp} {Q : VK}
theorem a_neS {s : Str} (h : Q (.bl false) H) : rNe (.str s) (.str s) H Q := ⟨rfl, by rw [decide_eq_true rfl]; exact h⟩
theorem a_eqS {s : Str} (h : Q (.bl true) H) : rEq (.str s) (.str s) H Q := ⟨rfl, by rw [decide_eq_true rfl]; exact h⟩
theorem a_neTT {p A B : Prop} [Decidable p] (h : p) (q : B) : if (true != decide p) = true then A else B := by rw [decide_eq_true h]; exact q
theorem a_neFF {p A B : Prop} [Decidable p] (h : ¬ p) (q : B) : if (false != decide p) = true then A else B := by rw [decide_eq_false h]; exact q
theorem q_neTT {p : Prop} [Decidable p] {QB : Bool → Hp → Prop} (hq : QB false H) (h : p) : QB (true != decide p) H := by rw [decide_eq_true h]; exact hq
theorem q_neFF {p : Prop} [Decidable p] {QB : Bool → Hp → Prop} (hq : QB false H) (h : ¬ p) : QB (false != decide p) H := by rw [decide_eq_false h]; exact hq
end
end R

/-! ## rows of tricks: a list or a tuple -/
namespace R
open PySem PySem.Spec PyProof.Rows L2
open PySem.W (Frag)
def EAt (H : Hp) (a : Addr) (xs : List V) : Prop := H a = some (.lst xs) ∨ H a = some (.tup xs)
theorem EAt.up {B H : Hp} {a : Addr} {xs : List V} (s : Same B H) (h : EAt B a xs) : EAt H a xs := h.imp (s _ _) (s _ _)
/-- two rules for one walk -/
def iEi (w1 w2 : TI) : TI := fun σ H RR => w1 σ H RR ∨ w2 σ H RR
theorem pi_either {X : Cx} {tg it : Expr} {w1 w2 : TI} (h1 : PI X tg it w1) (h2 : PI X tg it w2) : PI X tg it (iEi w1 w2) :=
  ⟨fun pins s σ H RR I h => h.elim (h1.run pins s σ H RR I) (h2.run pins s σ H RR I)⟩
section
variable {K : Frag} {B H : Hp} {a : Addr} {xs : List V} {v : Nat} {σ : L2.St} {g : TG} {tb : TS} {D : Ends} {Q : VK}
theorem for_E (hB : EAt B a xs) (hv : σ[v]? = some (some (.ref a))) (Pv : Nat → L2.St → Hp → Prop) (h0 : Pv 0 σ H) (hS : ∀ i σ H, Pv i σ H → Same B H)
    (hs : ∀ i x σ H, xs[i]? = some x → Pv i σ H → g x σ H fun σ2 H2 => tb { D with nx := Pv (i + 1), ct := Pv (i + 1), bk := D.nx } σ2 H2) (hd : ∀ σ H, Pv xs.length σ H → D.nx σ H) : tFor (iEi (iList K (tVar v)) (iTup K (tVar v))) g tb D σ H := by
  refine a_for ?_
  rcases hB with hB | hB
  · have sq : ∀ i σ H, Pv i σ H → SqL K H a xs := fun i σ H p => SqL.of (hS i σ H p _ _ hB)
    refine .inl (a_iL (a_var hv ⟨a, rfl, ⟨xs, sq _ _ _ h0⟩, ?_⟩))
    exact for_it walk_list Pv h0 (fun i σ H _ p => sq i σ H p) (fun i x σ H H' hi p y => by obtain ⟨rfl, y⟩ := y; exact hs i x σ _ y p) hd
  · have sq : ∀ i σ H, Pv i σ H → SqT K H a xs := fun i σ H p => SqT.of (hS i σ H p _ _ hB)
    refine .inr (a_iT (a_var hv ⟨a, rfl, ⟨xs, sq _ _ _ h0⟩, ?_⟩))
    exact for_it walk_tup Pv h0 (fun i σ H _ p => sq i σ H p) (fun i x σ H H' hi p y => by obtain ⟨rfl, y⟩ := y; exact hs i x σ _ y p) hd
theorem for_enumE (hB : EAt B a xs) (hv : σ[v]? = some (some (.ref a))) (Pv : Nat → L2.St → Hp → Prop) (h0 : Pv 0 σ H) (hS : ∀ i σ H, Pv i σ H → Same B H)
    (hs : ∀ i x T σ H, xs[i]? = some x → Pv i σ H → H T = none → g (.ref T) σ (upd H T (.tup [.int (i : Nat), x])) fun σ2 H2 => tb { D with nx := Pv (i + 1), ct := Pv (i + 1), bk := D.nx } σ2 H2) (hd : ∀ σ H, Pv xs.length σ H → D.nx σ H) : tFor (iEi (iEnum K (tCons (tVar v) tNil)) (iEnumT K (tCons (tVar v) tNil))) g tb D σ H := by
  refine a_for ?_
  rcases hB with hB | hB
  · have sq : ∀ i σ H, Pv i σ H → SqL K H a xs := fun i σ H p => SqL.of (hS i σ H p _ _ hB)
    refine .inl (a_enum (a_cons (a_var hv (a_nil ⟨a, xs, rfl, sq _ _ _ h0, ?_⟩))))
    exact for_it walk_enum Pv h0 (fun i σ H _ p => sq i σ H p) (fun i x σ H H' hi p y => by
      obtain ⟨T, u, w, rfl, hT, rfl, e1, e2⟩ := y
      cases e1
      exact hs i w T σ H e2 p hT) hd
  · have sq : ∀ i σ H, Pv i σ H → SqT K H a xs := fun i σ H p => SqT.of (hS i σ H p _ _ hB)
    refine .inr (a_enumT (a_cons (a_var hv (a_nil ⟨a, xs, rfl, sq _ _ _ h0, ?_⟩))))
    exact for_it walk_enumT Pv h0 (fun i σ H _ p => sq i σ H p) (fun i x σ H H' hi p y => by
      obtain ⟨T, u, w, rfl, hT, rfl, e1, e2⟩ := y
      cases e1
      exact hs i w T σ H e2 p hT) hd
theorem a_lenE (h : EAt H a xs) (q : Q (.int xs.length) H) : rLen K [.ref a] H Q := ⟨a, xs, rfl, h.imp SqL.of SqT.of, q⟩
theorem a_isiE {tp : Addr} (h : EAt H a xs) (ht : H tp = some (.tup [.ty "list", .ty "tuple"])) (q : Q (.bl true) H) : rIsiT K [.ref a, .ref tp] H Q := by
  rcases h with h | h
  · exact ⟨_, tp, _, .type "list", [.type "list", .type "tuple"], true, rfl, ht, .cons (.ty _) (.cons (.ty _) .nil), .base (.lst h), kitAny_cons (b := true) (kit_ty (by decide +kernel)) (fun z => by cases z) (fun _ => rfl), q⟩
  · exact ⟨_, tp, _, .type "tuple", [.type "list", .type "tuple"], true, rfl, ht, .cons (.ty _) (.cons (.ty _) .nil), .base (.tup h), kitAny_cons (b := false) (kit_ty (by decide +kernel)) (fun _ => kitAny_cons (b := true) (kit_ty (by decide +kernel)) (fun z => by cases z) (fun _ => rfl)) (fun z => by cases z), q⟩
end
/-! the plain side: tricks one behind the other -/
abbrev Tr := Int × Int × Int
def TrOk (x : Tr) : Prop := (2 ≤ x.1 ∧ x.1 ≤ 16) ∧ (1 ≤ x.2.1 ∧ x.2.1 ≤ 2) ∧ -100 ≤ x.2.2 ∧ x.2.2 ≤ 100
def behT (x : Tr) (n : Int) : Int := beh x.1 x.2.1 x.2.2 n
def blk (x : Tr) : Int := x.1 ^ x.2.1.toNat
def behA : List Tr → Int → Int
  | [], n => n
  | x :: l, n => behA l (behT x n)
def wideA : List Tr → Int
  | [] => 1
  | x :: l => blk x * wideA l
theorem behA_snoc (x : Tr) : ∀ (l : List Tr) (n : Int), behA (l ++ [x]) n = behT x (behA l n)
  | [], _ => rfl
  | y :: l, n => behA_snoc x l (behT y n)
theorem wideA_snoc (x : Tr) : ∀ l : List Tr, wideA (l ++ [x]) = wideA l * blk x
  | [] => by show blk x * 1 = 1 * blk x; rw [Int.mul_one, Int.one_mul]
  | y :: l => by
    show blk y * wideA (l ++ [x]) = blk y * wideA l * blk x
    rw [wideA_snoc x l, Int.mul_assoc]
theorem behA_take {l : List Tr} {i : Nat} (h : i < l.length) (n : Int) : behA (l.take (i + 1)) n = behT l[i] (behA (l.take i) n) := by
  rw [List.take_succ_eq_append_getElem h, behA_snoc]
theorem wideA_take {l : List Tr} {i : Nat} (h : i < l.length) : wideA (l.take (i + 1)) = wideA (l.take i) * blk l[i] := by
  rw [List.take_succ_eq_append_getElem h, wideA_snoc]
theorem blk_pos {x : Tr} (h : TrOk x) : 2 ≤ blk x := by
  obtain ⟨h1, h2, _⟩ := h
  unfold blk
  have e : x.2.1 = 1 ∨ x.2.1 = 2 := by omega
  rcases e with e | e
  · rw [e]
    have z : x.1 ^ (1 : Int).toNat = x.1 := by rw [show (1 : Int).toNat = 1 from rfl, Int.pow_succ, Int.pow_zero, Int.one_mul]
    rw [z]; omega
  · rw [e]
    have z : x.1 ^ (2 : Int).toNat = x.1 * x.1 := by rw [show (2 : Int).toNat = 2 from rfl, Int.pow_succ, Int.pow_succ, Int.pow_zero, Int.one_mul]
    rw [z]
    have q : x.1 * 2 ≤ x.1 * x.1 := Int.mul_le_mul_of_nonneg_left h1.1 (by omega)
    omega
theorem wideA_pos : ∀ {l : List Tr}, (∀ x ∈ l, TrOk x) → 0 < wideA l
  | [], _ => by show (0 : Int) < 1; omega
  | x :: l, h => Int.mul_pos (by have := blk_pos (h x List.mem_cons_self); omega) (wideA_pos fun y hy => h y (List.mem_cons_of_mem _ hy))
def unlA (l : List Tr) (d n : Int) : Bool := !decide (n % d = behA l n % d)
def flsA (l : List Tr) (d n : Int) : Bool := decide (n % d = 0) != decide (behA l n % d = 0)
theorem behT_add {x : Tr} (h : TrOk x) (n m : Int) : behT x (n + m * blk x) = behT x n + m := by
  have hb := blk_pos h
  unfold behT beh
  unfold blk at *
  generalize x.1 ^ x.2.1.toNat = B at *
  rw [Int.add_mul_ediv_right _ _ (by omega), Int.add_mul_emod_self_right]
  omega
theorem behA_add : ∀ {l : List Tr}, (∀ x ∈ l, TrOk x) → ∀ n m : Int, behA l (n + m * wideA l) = behA l n + m
  | [], _, n, m => by show n + m * 1 = n + m; rw [Int.mul_one]
  | x :: l, h, n, m => by
    show behA l (behT x (n + m * (blk x * wideA l))) = behA l (behT x n) + m
    rw [← Int.mul_assoc, Int.mul_comm m (blk x), Int.mul_assoc, Int.mul_comm (blk x), behT_add (h x List.mem_cons_self)]
    exact behA_add (fun y hy => h y (List.mem_cons_of_mem _ hy)) _ _
theorem turnA {l : List Tr} (h : ∀ x ∈ l, TrOk x) {d : Int} (hd : 0 < d) (n : Int) : ∃ m : Int, 0 ≤ m ∧ m < d * wideA l ∧ n % d = m % d ∧ behA l n % d = behA l m % d := by
  have hw := Int.mul_pos hd (wideA_pos h)
  refine ⟨n % (d * wideA l), Int.emod_nonneg _ (by omega), Int.emod_lt_of_pos _ hw, ?_, ?_⟩
  · rw [Int.emod_emod_of_dvd _ (Int.dvd_mul_right d _)]
  · have e := Int.mul_ediv_add_emod n (d * wideA l)
    have q := behA_add h (n % (d * wideA l)) (d * (n / (d * wideA l)))
    have z : n % (d * wideA l) + d * (n / (d * wideA l)) * wideA l = n := by
      rw [Int.mul_assoc, Int.mul_comm (n / (d * wideA l)), ← Int.mul_assoc]; omega
    rw [z] at q
    rw [q, Int.add_mul_emod_self_left]
theorem unlA_all {l : List Tr} (h : ∀ x ∈ l, TrOk x) {d : Int} (hd : 0 < d) (e : fstB (unlA l d) (d * wideA l).toNat = none) (n : Int) : unlA l d n = false := by
  obtain ⟨m, h0, h1, e1, e2⟩ := turnA h hd n
  have q := fstB_none e h0 (by omega)
  unfold unlA at *
  rw [e1, e2]; exact q
theorem flsA_all {l : List Tr} (h : ∀ x ∈ l, TrOk x) {d : Int} (hd : 0 < d) (e : fstB (flsA l d) (d * wideA l).toNat = none) (n : Int) : flsA l d n = false := by
  obtain ⟨m, h0, h1, e1, e2⟩ := turnA h hd n
  have q := fstB_none e h0 (by omega)
  unfold flsA at *
  rw [e1, e2]; exact q
end R

local macro_rules | `(tactic| walk_at "s") => `(tactic| first
  | with_reducible refine R.a_seq ?_ | with_reducible refine R.a_asg ?_ | with_reducible refine R.a_gname ?_ | ((with_reducible refine' R.a_var ?h1 ?h2); (case h1 => rfl)) | with_reducible refine R.a_c ?_
  | with_reducible refine R.a_op ?_ | with_reducible refine R.a_un ?_ | with_reducible refine R.a_neg ?_ | with_reducible refine R.a_drop ?_ | with_reducible refine R.a_ret ?_ | with_reducible refine R.a_retN ?_
  | with_reducible refine R.a_test ?_ | with_reducible refine R.a_tB ?_ | with_reducible refine R.a_bk ?_ | with_reducible refine R.a_and ?_ | with_reducible refine R.a_or ?_ | with_reducible refine R.a_not ?_
  | with_reducible refine R.a_andV ?_ | with_reducible refine R.a_orV ?_ | with_reducible refine R.a_notV ?_ | with_reducible refine R.a_bv ?_ | with_reducible refine R.a_ifE ?_
  | with_reducible refine R.a_nil ?_ | with_reducible refine R.a_cons ?_ | with_reducible refine R.a_tup ?_ | with_reducible refine R.a_lst ?_ | with_reducible refine R.a_cb ?_ | with_reducible refine R.a_call ?_ | with_reducible refine R.a_chain ?_
  | with_reducible refine R.a_sl ?_ | with_reducible refine R.a_npart ?_ | with_reducible refine R.a_part ?_ | with_reducible refine R.a_ik ?_ | with_reducible refine R.a_gsub ?_ | with_reducible refine R.a_bm ?_ | with_reducible refine R.a_bm0 ?_ | with_reducible refine R.a_par ?_ | with_reducible refine R.a_par2 ?_
  | with_reducible refine R.a_for ?_ | with_reducible refine R.a_rev ?_ | with_reducible refine R.a_iL ?_ | with_reducible refine R.a_iT ?_ | with_reducible refine R.a_enum ?_ | with_reducible refine R.a_lc ?_ | with_reducible refine R.a_rng1 ?_ | with_reducible refine R.a_rng2 ?_ | with_reducible refine R.a_next ?_ | with_reducible refine R.a_yes ?_ | with_reducible refine R.a_gcons ?_ | with_reducible refine R.a_gnil ?_
  | ((with_reducible refine R.a_rng1' ?h1 ?h2 ?h3); (case h1 => omega); (case h2 => omega)) | ((with_reducible refine R.a_rng2' ?h1 ?h2); (case h1 => omega))
  | with_reducible refine R.a_I0 ?_ | with_reducible refine R.a_eqI ?_ | with_reducible refine R.a_neI ?_ | with_reducible refine R.a_isN1 ?_ | with_reducible refine R.a_notN1 ?_
  | ((with_reducible refine R.a_isN0 ?h1 ?h2); (case h1 => (intro z; cases z))) | ((with_reducible refine R.a_notN0 ?h1 ?h2); (case h1 => (intro z; cases z)))
  | with_reducible refine R.a_isiI ?_ | with_reducible refine R.a_isiB ?_
  | ((with_reducible refine R.a_I ?h1 ?h2); (case h1 => first | omega | exact R.mx_l (by omega) (by omega) | exact R.mx_r (by omega) (by omega) | exact R.divW (by omega) (by omega)))
  | with_reducible refine R.a_tt ?_ | with_reducible refine R.a_ff ?_ | with_reducible refine R.a_nt ?_ | with_reducible refine R.a_nf ?_)
-- a test whose answer is known
local macro_rules | `(tactic| walk_at "k") => `(tactic| first
  | ((with_reducible refine R.a_itT ?h1 ?h2); (case h1 => first | assumption | omega)) | ((with_reducible refine R.a_itF ?h1 ?h2); (case h1 => first | assumption | omega))
  | ((with_reducible refine R.a_niT ?h1 ?h2); (case h1 => first | assumption | omega)) | ((with_reducible refine R.a_niF ?h1 ?h2); (case h1 => first | assumption | omega)))
local macro_rules | `(tactic| walk_at "k") => `(tactic| first
  | ((with_reducible refine R.a_cT ?h1 ?h2 ?h3); (case h1 => first | assumption | omega); (case h2 => first | assumption | omega))
  | ((with_reducible refine R.a_ncT ?h1 ?h2 ?h3); (case h1 => first | assumption | omega); (case h2 => first | assumption | omega)))
local macro_rules | `(tactic| walk_at "c") => `(tactic| fail)
local macro_rules | `(tactic| walk_at "sq") => `(tactic| first | assumption | (refine' R.Own.sq ?o 0 ?e; (case o => assumption); (case e => rfl)) | (refine' R.Own.sq ?o 1 ?e; (case o => assumption); (case e => rfl)) | (refine' R.Own.sq ?o 2 ?e; (case o => assumption); (case e => rfl)) | (refine' R.Own.sq ?o 3 ?e; (case o => assumption); (case e => rfl)) | (refine' R.Own.sq ?o 4 ?e; (case o => assumption); (case e => rfl)) | (refine' R.Own.sq ?o 5 ?e; (case o => assumption); (case e => rfl)) | (refine' R.Own.sq ?o 6 ?e; (case o => assumption); (case e => rfl)) | (refine' R.Own.sq ?o 7 ?e; (case o => assumption); (case e => rfl)) | (refine' R.Own.sq ?o 8 ?e; (case o => assumption); (case e => rfl)) | (refine' R.Own.sq ?o 9 ?e; (case o => assumption); (case e => rfl)) | (refine' R.Own.seq ?o ?e; (case o => assumption); (case e => assumption)))
local macro_rules | `(tactic| walk_at "tq") => `(tactic| first | assumption | (refine' R.Own.tq ?o 0 ?e; (case o => assumption); (case e => rfl)) | (refine' R.Own.tq ?o 1 ?e; (case o => assumption); (case e => rfl)) | (refine' R.Own.tq ?o 2 ?e; (case o => assumption); (case e => rfl)) | (refine' R.Own.tq ?o 3 ?e; (case o => assumption); (case e => rfl)) | (refine' R.Own.tq ?o 4 ?e; (case o => assumption); (case e => rfl)) | (refine' R.Own.tq ?o 5 ?e; (case o => assumption); (case e => rfl)) | (refine' R.Own.tq ?o 6 ?e; (case o => assumption); (case e => rfl)) | (refine' R.Own.tq ?o 7 ?e; (case o => assumption); (case e => rfl)) | (refine' R.Own.tq ?o 8 ?e; (case o => assumption); (case e => rfl)) | (refine' R.Own.tq ?o 9 ?e; (case o => assumption); (case e => rfl)) | (refine' R.Own.tup ?o ?e; (case o => assumption); (case e => assumption)))
local macro_rules | `(tactic| walk_at "c") => `(tactic| first
  | ((with_reducible refine' R.a_ixL ?s ?a ?q); (case s => walk_at "sq"); (case a => rfl))
  | ((with_reducible refine' R.a_ixT ?s ?a ?q); (case s => walk_at "tq"); (case a => rfl))
  | ((with_reducible refine' R.a_gtup ?k1 ?k2 ?k3); (case k1 => walk_at "tq"); (case k2 => rfl))
  | with_reducible refine R.a_int1 ?_ | with_reducible refine R.a_abs ?_
  | ((with_reducible refine' R.a_len ?k1 ?k2); (case k1 => first | (refine Or.inl ?_; walk_at "sq") | (refine Or.inr ?_; walk_at "tq")))
  | ((with_reducible refine' R.a_pow (k := 18) ?n ?k ?m ?q); (case n => rfl); (case k => decide); (case m => decide)) | ((with_reducible refine' R.a_pow (k := 40) ?n ?k ?m ?q); (case n => rfl); (case k => decide); (case m => decide)) | ((with_reducible refine' R.a_pow (k := 6) ?n ?k ?m ?q); (case n => rfl); (case k => decide); (case m => decide)) | ((with_reducible refine' R.a_pow (k := 20) ?n ?k ?m ?q); (case n => rfl); (case k => decide); (case m => decide)) | ((with_reducible refine' R.a_pow (k := 30) ?n ?k ?m ?q); (case n => rfl); (case k => decide); (case m => decide)) | ((with_reducible refine' R.a_pow (k := 39) ?n ?k ?m ?q); (case n => rfl); (case k => decide); (case m => decide))
  | ((with_reducible refine' R.a_setL ?k1 0 ?k2 ?k3 ?k4); (case k1 => assumption); (case k2 => rfl); (case k3 => rfl); intro H' O') | ((with_reducible refine' R.a_setL ?k1 1 ?k2 ?k3 ?k4); (case k1 => assumption); (case k2 => rfl); (case k3 => rfl); intro H' O') | ((with_reducible refine' R.a_setL ?k1 2 ?k2 ?k3 ?k4); (case k1 => assumption); (case k2 => rfl); (case k3 => rfl); intro H' O') | ((with_reducible refine' R.a_setL ?k1 3 ?k2 ?k3 ?k4); (case k1 => assumption); (case k2 => rfl); (case k3 => rfl); intro H' O') | ((with_reducible refine' R.a_setL ?k1 4 ?k2 ?k3 ?k4); (case k1 => assumption); (case k2 => rfl); (case k3 => rfl); intro H' O') | ((with_reducible refine' R.a_setL ?k1 5 ?k2 ?k3 ?k4); (case k1 => assumption); (case k2 => rfl); (case k3 => rfl); intro H' O') | ((with_reducible refine' R.a_setL ?k1 6 ?k2 ?k3 ?k4); (case k1 => assumption); (case k2 => rfl); (case k3 => rfl); intro H' O') | ((with_reducible refine' R.a_setL ?k1 7 ?k2 ?k3 ?k4); (case k1 => assumption); (case k2 => rfl); (case k3 => rfl); intro H' O') | ((with_reducible refine' R.a_setL ?k1 8 ?k2 ?k3 ?k4); (case k1 => assumption); (case k2 => rfl); (case k3 => rfl); intro H' O') | ((with_reducible refine' R.a_setL ?k1 9 ?k2 ?k3 ?k4); (case k1 => assumption); (case k2 => rfl); (case k3 => rfl); intro H' O'))
local macro_rules | `(tactic| walk_at "app") => `(tactic| first | ((with_reducible refine' R.a_app ?k1 0 ?k2 ?k3 ?k4); (case k1 => assumption); (case k2 => rfl)) | ((with_reducible refine' R.a_app ?k1 1 ?k2 ?k3 ?k4); (case k1 => assumption); (case k2 => rfl)) | ((with_reducible refine' R.a_app ?k1 2 ?k2 ?k3 ?k4); (case k1 => assumption); (case k2 => rfl)) | ((with_reducible refine' R.a_app ?k1 3 ?k2 ?k3 ?k4); (case k1 => assumption); (case k2 => rfl)) | ((with_reducible refine' R.a_app ?k1 4 ?k2 ?k3 ?k4); (case k1 => assumption); (case k2 => rfl)) | ((with_reducible refine' R.a_app ?k1 5 ?k2 ?k3 ?k4); (case k1 => assumption); (case k2 => rfl)))
local macro_rules | `(tactic| walk_at "mkL") => `(tactic| ((with_reducible refine' R.a_mkL ?k1 ?k2 ?k3); (case k1 => assumption); (case k2 => first | exact Nat.zero_le _ | (simp only [List.length_cons, List.length_nil, List.length_map]; omega))))
local macro_rules | `(tactic| walk_at "mkT") => `(tactic| ((with_reducible refine' R.a_mkT ?k1 ?k2 ?k3); (case k1 => assumption); (case k2 => first | exact Nat.zero_le _ | (simp only [List.length_cons, List.length_nil, List.length_map]; omega))))
local macro_rules | `(tactic| walk_at "h") => `(tactic| repeat (first | walk_at "s" | walk_at "k" | walk_at "c"))
local macro_rules | `(tactic| walk_at "g") => `(tactic| repeat (first | walk_at "s" | walk_at "k" | walk_at "c" | with_reducible refine R.a_if ?_))
local macro_rules | `(tactic| walk_at "s") => `(tactic| with_reducible refine R.a_enumT ?_)
local macro_rules | `(tactic| walk_at "s") => `(tactic| first | with_reducible refine R.a_fld ?_ | with_reducible refine R.a_sfld ?_ | with_reducible refine R.a_make ?_)
local macro_rules | `(tactic| walk_at "c") => `(tactic| ((with_reducible refine' R.a_glst ?k1 ?k2 ?k3); (case k1 => walk_at "sq"); (case k2 => rfl)))
local macro_rules | `(tactic| walk_at "s") => `(tactic| first | with_reducible refine R.a_neB ?_ | with_reducible refine R.a_eqB ?_ | with_reducible refine R.a_neO ?_ | with_reducible refine R.a_isO1 ?_ | with_reducible refine R.a_isO0 ?_ | with_reducible refine R.a_notO1 ?_ | with_reducible refine R.a_notO0 ?_)
local macro_rules | `(tactic| walk_at "s") => `(tactic| first | with_reducible refine R.a_par3 ?_ | with_reducible refine R.a_par33 ?_)
local macro_rules | `(tactic| walk_at "s") => `(tactic| first | with_reducible refine R.a_neS ?_ | with_reducible refine R.a_eqS ?_)

namespace Toy
open PySem PySem.Spec PyProof.Rows L2 R
open PySem.W (Frag)
def topS (i : Nat) : Stmt := PySem.Challenge.pw_resttricks_k32_whole_good_chains.main.body.getD i (.Pass ⟨0, 0, 0, 0⟩)
abbrev s_is_from : Stmt := (topS 13)
abbrev N_is_from : List Str := ["value", "low", "high"]
abbrev p_is_from : List Str := ["value", "low", "high"]
theorem sc_is_from : FnScope N_is_from p_is_from (defScope s_is_from) := ⟨rfl, rfl, rfl, by decide +kernel, rfl, by decide +kernel, by decide +kernel⟩
abbrev s_need_base : Stmt := (topS 14)
abbrev N_need_base : List Str := ["base"]
abbrev p_need_base : List Str := ["base"]
theorem sc_need_base : FnScope N_need_base p_need_base (defScope s_need_base) := ⟨rfl, rfl, rfl, by decide +kernel, rfl, by decide +kernel, by decide +kernel⟩
abbrev s_need_divisor : Stmt := (topS 15)
abbrev N_need_divisor : List Str := ["d", "most"]
abbrev p_need_divisor : List Str := ["d", "most"]
theorem sc_need_divisor : FnScope N_need_divisor p_need_divisor (defScope s_need_divisor) := ⟨rfl, rfl, rfl, by decide +kernel, rfl, by decide +kernel, by decide +kernel⟩
abbrev s_common : Stmt := (topS 16)
abbrev N_common : List Str := ["one", "other", "great", "less"]
abbrev p_common : List Str := ["one", "other"]
theorem sc_common : FnScope N_common p_common (defScope s_common) := ⟨rfl, rfl, rfl, by decide +kernel, rfl, by decide +kernel, by decide +kernel⟩
abbrev s_power : Stmt := (topS 17)
abbrev N_power : List Str := ["base", "many", "found", "turn"]
abbrev p_power : List Str := ["base", "many"]
theorem sc_power : FnScope N_power p_power (defScope s_power) := ⟨rfl, rfl, rfl, by decide +kernel, rfl, by decide +kernel, by decide +kernel⟩
abbrev s_Trick_init : Stmt := (inClass (topS 21) 0)
abbrev N_Trick_init : List Str := ["self", "base", "take", "times"]
abbrev p_Trick_init : List Str := ["self", "base", "take", "times"]
theorem sc_Trick_init : FnScope N_Trick_init p_Trick_init (defScope s_Trick_init) := ⟨rfl, rfl, rfl, by decide +kernel, rfl, by decide +kernel, by decide +kernel⟩
abbrev s_need_trick : Stmt := (topS 22)
abbrev N_need_trick : List Str := ["trick"]
abbrev p_need_trick : List Str := ["trick"]
theorem sc_need_trick : FnScope N_need_trick p_need_trick (defScope s_need_trick) := ⟨rfl, rfl, rfl, by decide +kernel, rfl, by decide +kernel, by decide +kernel⟩
abbrev s_behind : Stmt := (topS 23)
abbrev N_behind : List Str := ["trick", "n"]
abbrev p_behind : List Str := ["trick", "n"]
theorem sc_behind : FnScope N_behind p_behind (defScope s_behind) := ⟨rfl, rfl, rfl, by decide +kernel, rfl, by decide +kernel, by decide +kernel⟩
abbrev s_word_of : Stmt := (topS 25)
abbrev N_word_of : List Str := ["unlike", "fail"]
abbrev p_word_of : List Str := ["unlike", "fail"]
theorem sc_word_of : FnScope N_word_of p_word_of (defScope s_word_of) := ⟨rfl, rfl, rfl, by decide +kernel, rfl, by decide +kernel, by decide +kernel⟩
abbrev s_factor_by : Stmt := (topS 26)
abbrev N_factor_by : List Str := ["trick", "d", "found"]
abbrev p_factor_by : List Str := ["trick", "d"]
theorem sc_factor_by : FnScope N_factor_by p_factor_by (defScope s_factor_by) := ⟨rfl, rfl, rfl, by decide +kernel, rfl, by decide +kernel, by decide +kernel⟩
abbrev s_factor : Stmt := (topS 27)
abbrev N_factor : List Str := ["trick", "d"]
abbrev p_factor : List Str := ["trick", "d"]
theorem sc_factor : FnScope N_factor p_factor (defScope s_factor) := ⟨rfl, rfl, rfl, by decide +kernel, rfl, by decide +kernel, by decide +kernel⟩
abbrev s_need_tricks : Stmt := (topS 32)
abbrev N_need_tricks : List Str := ["tricks", "index", "trick"]
abbrev p_need_tricks : List Str := ["tricks"]
theorem sc_need_tricks : FnScope N_need_tricks p_need_tricks (defScope s_need_tricks) := ⟨rfl, rfl, rfl, by decide +kernel, rfl, by decide +kernel, by decide +kernel⟩
abbrev s_behind_all : Stmt := (topS 33)
abbrev N_behind_all : List Str := ["tricks", "n", "trick"]
abbrev p_behind_all : List Str := ["tricks", "n"]
theorem sc_behind_all : FnScope N_behind_all p_behind_all (defScope s_behind_all) := ⟨rfl, rfl, rfl, by decide +kernel, rfl, by decide +kernel, by decide +kernel⟩
abbrev s_wide_of : Stmt := (topS 34)
abbrev N_wide_of : List Str := ["tricks", "found", "trick"]
abbrev p_wide_of : List Str := ["tricks"]
theorem sc_wide_of : FnScope N_wide_of p_wide_of (defScope s_wide_of) := ⟨rfl, rfl, rfl, by decide +kernel, rfl, by decide +kernel, by decide +kernel⟩
abbrev s_need_chain : Stmt := (topS 35)
abbrev N_need_chain : List Str := ["tricks", "d"]
abbrev p_need_chain : List Str := ["tricks", "d"]
theorem sc_need_chain : FnScope N_need_chain p_need_chain (defScope s_need_chain) := ⟨rfl, rfl, rfl, by decide +kernel, rfl, by decide +kernel, by decide +kernel⟩
abbrev s_first_fail : Stmt := (topS 36)
abbrev N_first_fail : List Str := ["tricks", "d", "n"]
abbrev p_first_fail : List Str := ["tricks", "d"]
theorem sc_first_fail : FnScope N_first_fail p_first_fail (defScope s_first_fail) := ⟨rfl, rfl, rfl, by decide +kernel, rfl, by decide +kernel, by decide +kernel⟩
abbrev s_first_unlike : Stmt := (topS 37)
abbrev N_first_unlike : List Str := ["tricks", "d", "n"]
abbrev p_first_unlike : List Str := ["tricks", "d"]
theorem sc_first_unlike : FnScope N_first_unlike p_first_unlike (defScope s_first_unlike) := ⟨rfl, rfl, rfl, by decide +kernel, rfl, by decide +kernel, by decide +kernel⟩
abbrev s_chain_tells : Stmt := (topS 38)
abbrev N_chain_tells : List Str := ["tricks", "d"]
abbrev p_chain_tells : List Str := ["tricks", "d"]
theorem sc_chain_tells : FnScope N_chain_tells p_chain_tells (defScope s_chain_tells) := ⟨rfl, rfl, rfl, by decide +kernel, rfl, by decide +kernel, by decide +kernel⟩
abbrev s_law_taken : Stmt := (topS 40)
abbrev N_law_taken : List Str := ["_law_row", "_law_many", "_law_found", "_law_cell"]
abbrev p_law_taken : List Str := ["_law_row", "_law_many"]
theorem sc_law_taken : FnScope N_law_taken p_law_taken (defScope s_law_taken) := ⟨rfl, rfl, rfl, by decide +kernel, rfl, by decide +kernel, by decide +kernel⟩
abbrev s_law_behind : Stmt := (topS 41)
abbrev N_law_behind : List Str := ["_law_told", "_law_n", "_law_base", "_law_take", "_law_times", "_law_block", "_law_rest"]
abbrev p_law_behind : List Str := ["_law_told", "_law_n"]
theorem sc_law_behind : FnScope N_law_behind p_law_behind (defScope s_law_behind) := ⟨rfl, rfl, rfl, by decide +kernel, rfl, by decide +kernel, by decide +kernel⟩
abbrev s_law_number : Stmt := (topS 42)
abbrev N_law_number : List Str := ["_law_row", "_law_size", "_law_n"]
abbrev p_law_number : List Str := ["_law_row"]
theorem sc_law_number : FnScope N_law_number p_law_number (defScope s_law_number) := ⟨rfl, rfl, rfl, by decide +kernel, rfl, by decide +kernel, by decide +kernel⟩
abbrev s_law_tricks : Stmt := (topS 43)
abbrev N_law_tricks : List Str := ["_law_told", "_law_base", "_law_take", "_law_times"]
abbrev p_law_tricks : List Str := ["_law_told"]
theorem sc_law_tricks : FnScope N_law_tricks p_law_tricks (defScope s_law_tricks) := ⟨rfl, rfl, rfl, by decide +kernel, rfl, by decide +kernel, by decide +kernel⟩
abbrev s_law : Stmt := (topS 44)
abbrev N_law : List Str := ["_law_script", "_law_line", "_law_d", "_law_told", "_law_product", "_law_k", "_law_base", "_law_good", "_law_due", "_law_turn", "_law_n", "_law_later", "_law_one", "_law_times"]
abbrev p_law : List Str := ["_law_script"]
theorem sc_law : FnScope N_law p_law (defScope s_law) := ⟨rfl, rfl, rfl, by decide +kernel, rfl, by decide +kernel, by decide +kernel⟩
structure Adr where
  f_is_from : Addr
  d_is_from : FuncData
  f_need_base : Addr
  d_need_base : FuncData
  f_need_divisor : Addr
  d_need_divisor : FuncData
  f_common : Addr
  d_common : FuncData
  f_power : Addr
  d_power : FuncData
  f_Trick_init : Addr
  d_Trick_init : FuncData
  f_need_trick : Addr
  d_need_trick : FuncData
  f_behind : Addr
  d_behind : FuncData
  f_word_of : Addr
  d_word_of : FuncData
  f_factor_by : Addr
  d_factor_by : FuncData
  f_factor : Addr
  d_factor : FuncData
  f_need_tricks : Addr
  d_need_tricks : FuncData
  f_behind_all : Addr
  d_behind_all : FuncData
  f_wide_of : Addr
  d_wide_of : FuncData
  f_need_chain : Addr
  d_need_chain : FuncData
  f_first_fail : Addr
  d_first_fail : FuncData
  f_first_unlike : Addr
  d_first_unlike : FuncData
  f_chain_tells : Addr
  d_chain_tells : FuncData
  f_law_taken : Addr
  d_law_taken : FuncData
  f_law_behind : Addr
  d_law_behind : FuncData
  f_law_number : Addr
  d_law_number : FuncData
  f_law_tricks : Addr
  d_law_tricks : FuncData
  f_law : Addr
  d_law : FuncData
  c_Trick : Addr
structure Txt (K : Frag) (mg : Str → Option Value) (Z : Adr) : Prop where
  F_is_from : Fun K "is_from" "is_from" s_is_from Z.f_is_from Z.d_is_from
  b_is_from : Binds K Z.d_is_from p_is_from []
  g_is_from : mg "is_from" = some (.ref Z.f_is_from)
  F_need_base : Fun K "need_base" "need_base" s_need_base Z.f_need_base Z.d_need_base
  b_need_base : Binds K Z.d_need_base p_need_base []
  g_need_base : mg "need_base" = some (.ref Z.f_need_base)
  F_need_divisor : Fun K "need_divisor" "need_divisor" s_need_divisor Z.f_need_divisor Z.d_need_divisor
  b_need_divisor : Binds K Z.d_need_divisor p_need_divisor []
  g_need_divisor : mg "need_divisor" = some (.ref Z.f_need_divisor)
  F_common : Fun K "common" "common" s_common Z.f_common Z.d_common
  b_common : Binds K Z.d_common p_common []
  g_common : mg "common" = some (.ref Z.f_common)
  F_power : Fun K "power" "power" s_power Z.f_power Z.d_power
  b_power : Binds K Z.d_power p_power []
  g_power : mg "power" = some (.ref Z.f_power)
  F_Trick_init : Fun K "__init__" "Trick.__init__" s_Trick_init Z.f_Trick_init Z.d_Trick_init
  b_Trick_init : Binds K Z.d_Trick_init p_Trick_init []
  F_need_trick : Fun K "need_trick" "need_trick" s_need_trick Z.f_need_trick Z.d_need_trick
  b_need_trick : Binds K Z.d_need_trick p_need_trick []
  g_need_trick : mg "need_trick" = some (.ref Z.f_need_trick)
  F_behind : Fun K "behind" "behind" s_behind Z.f_behind Z.d_behind
  b_behind : Binds K Z.d_behind p_behind []
  g_behind : mg "behind" = some (.ref Z.f_behind)
  F_word_of : Fun K "word_of" "word_of" s_word_of Z.f_word_of Z.d_word_of
  b_word_of : Binds K Z.d_word_of p_word_of []
  g_word_of : mg "word_of" = some (.ref Z.f_word_of)
  F_factor_by : Fun K "factor_by" "factor_by" s_factor_by Z.f_factor_by Z.d_factor_by
  b_factor_by : Binds K Z.d_factor_by p_factor_by []
  g_factor_by : mg "factor_by" = some (.ref Z.f_factor_by)
  F_factor : Fun K "factor" "factor" s_factor Z.f_factor Z.d_factor
  b_factor : Binds K Z.d_factor p_factor []
  g_factor : mg "factor" = some (.ref Z.f_factor)
  F_need_tricks : Fun K "need_tricks" "need_tricks" s_need_tricks Z.f_need_tricks Z.d_need_tricks
  b_need_tricks : Binds K Z.d_need_tricks p_need_tricks []
  g_need_tricks : mg "need_tricks" = some (.ref Z.f_need_tricks)
  F_behind_all : Fun K "behind_all" "behind_all" s_behind_all Z.f_behind_all Z.d_behind_all
  b_behind_all : Binds K Z.d_behind_all p_behind_all []
  g_behind_all : mg "behind_all" = some (.ref Z.f_behind_all)
  F_wide_of : Fun K "wide_of" "wide_of" s_wide_of Z.f_wide_of Z.d_wide_of
  b_wide_of : Binds K Z.d_wide_of p_wide_of []
  g_wide_of : mg "wide_of" = some (.ref Z.f_wide_of)
  F_need_chain : Fun K "need_chain" "need_chain" s_need_chain Z.f_need_chain Z.d_need_chain
  b_need_chain : Binds K Z.d_need_chain p_need_chain []
  g_need_chain : mg "need_chain" = some (.ref Z.f_need_chain)
  F_first_fail : Fun K "first_fail" "first_fail" s_first_fail Z.f_first_fail Z.d_first_fail
  b_first_fail : Binds K Z.d_first_fail p_first_fail []
  g_first_fail : mg "first_fail" = some (.ref Z.f_first_fail)
  F_first_unlike : Fun K "first_unlike" "first_unlike" s_first_unlike Z.f_first_unlike Z.d_first_unlike
  b_first_unlike : Binds K Z.d_first_unlike p_first_unlike []
  g_first_unlike : mg "first_unlike" = some (.ref Z.f_first_unlike)
  F_chain_tells : Fun K "chain_tells" "chain_tells" s_chain_tells Z.f_chain_tells Z.d_chain_tells
  b_chain_tells : Binds K Z.d_chain_tells p_chain_tells []
  g_chain_tells : mg "chain_tells" = some (.ref Z.f_chain_tells)
  F_law_taken : Fun K "_law_taken" "_law_taken" s_law_taken Z.f_law_taken Z.d_law_taken
  b_law_taken : Binds K Z.d_law_taken p_law_taken []
  g_law_taken : mg "_law_taken" = some (.ref Z.f_law_taken)
  F_law_behind : Fun K "_law_behind" "_law_behind" s_law_behind Z.f_law_behind Z.d_law_behind
  b_law_behind : Binds K Z.d_law_behind p_law_behind []
  g_law_behind : mg "_law_behind" = some (.ref Z.f_law_behind)
  F_law_number : Fun K "_law_number" "_law_number" s_law_number Z.f_law_number Z.d_law_number
  b_law_number : Binds K Z.d_law_number p_law_number []
  g_law_number : mg "_law_number" = some (.ref Z.f_law_number)
  F_law_tricks : Fun K "_law_tricks" "_law_tricks" s_law_tricks Z.f_law_tricks Z.d_law_tricks
  b_law_tricks : Binds K Z.d_law_tricks p_law_tricks []
  g_law_tricks : mg "_law_tricks" = some (.ref Z.f_law_tricks)
  F_law : Fun K "law" "law" s_law Z.f_law Z.d_law
  b_law : Binds K Z.d_law p_law []
  g_law : mg "law" = some (.ref Z.f_law)
  g_Trick : mg "Trick" = some (.ref Z.c_Trick)
  cl_Trick : Cls K Z.c_Trick
  is_Trick : C8.InsC K Z.c_Trick
  M_Trick : Mk K Z.c_Trick Z.f_Trick_init
  nf_Trick_basis : NoAttr K Z.c_Trick "basis"
  nf_Trick_many : NoAttr K Z.c_Trick "many"
  nf_Trick_factor : NoAttr K Z.c_Trick "factor"
  nf_Trick_block : NoAttr K Z.c_Trick "block"
  v_LEAST_BASE : ∃ t, mg "LEAST_BASE" = some (.int (2) t)
  v_MOST_BASE : ∃ t, mg "MOST_BASE" = some (.int (16) t)
  v_MOST_DIVISOR : ∃ t, mg "MOST_DIVISOR" = some (.int (100) t)
  v_MOST_TAKE : ∃ t, mg "MOST_TAKE" = some (.int (2) t)
  v_MOST_TIMES : ∃ t, mg "MOST_TIMES" = some (.int (100) t)
  v_MOST_TRICKS : ∃ t, mg "MOST_TRICKS" = some (.int (4) t)
  v_MOST_WIDE : ∃ t, mg "MOST_WIDE" = some (.int (300) t)
  v_MOST_CHAIN_DIVISOR : ∃ t, mg "MOST_CHAIN_DIVISOR" = some (.int (30) t)
  n_isinstance : mg "isinstance" = none
  n_int : mg "int" = none
  n_bool : mg "bool" = none
  n_abs : mg "abs" = none
  n_range : mg "range" = none
  n_enumerate : mg "enumerate" = none
  n_list : mg "list" = none
  n_tuple : mg "tuple" = none
  n_len : mg "len" = none
section
variable {P : Program} {w : World} {K : Frag} {mg : Str → Option Value} {base : Heap} {Z : Adr}

/-! ### is_from -/
def sp_is_from (K : Frag) : Sp := fun vs H Q _ => ∃ i lo hi : Int, vs = [.int i, .int lo, .int hi] ∧ Q (.bl (decide (lo ≤ i) && decide (i ≤ hi))) H
theorem use_is_from {K : Frag} {i lo hi : Int} {H : Hp} {Q : VK} {E : XK} (h : Q (.bl (decide (lo ≤ i) && decide (i ≤ hi))) H) : sp_is_from K ([.int i, .int lo, .int hi] ++ []) H Q E := ⟨_, _, _, rfl, h⟩
theorem ok_is_from (T : Txt K mg Z) : FnOk P w K mg base CX0 1 Z.f_is_from Z.d_is_from p_is_from (sp_is_from K) := by
  refine T.F_is_from.ok sc_is_from (fun vs H Q E h => ?_) (fun cdv A outer s H vs Q E hr h => ?_)
  · obtain ⟨_, _, _, rfl, _⟩ := h; rfl
  · obtain ⟨i, lo, hi, rfl, h⟩ := h
    refine ⟨_, (pss_one (ps_ret (pe_and (pe_callB (r := rIsi K) call_isi (by rfl) T.n_isinstance boot_isinstance (pa_cons (pv 0) (pa_cons (pe_bltn (v := .ty "int") (by rfl) T.n_int boot_int rfl) pa_nil))) (pe_and (pe_not (pe_callB (r := rIsi K) call_isi (by rfl) T.n_isinstance boot_isinstance (pa_cons (pv 0) (pa_cons (pe_bltn (v := .ty "bool") (by rfl) T.n_bool boot_bool rfl) pa_nil)))) (pe_one (pe_chain op_le op_le (pv 1) (pv 0) (pv 2))))))), ?_⟩
    walk_at "g"
    refine a_it2 (fun c => ?_) (fun c => ?_)
    · walk_at "g"
      rw [decide_eq_true c, Bool.true_and] at h; exact h
    · rw [decide_eq_false c] at h; exact h
-- @USE
local macro_rules | `(tactic| walk_at "c") => `(tactic| with_reducible refine use_is_from ?_)

/-! ### need_base -/
def sp_need_base : Sp := fun vs H Q _ => ∃ b : Int, vs = [.int b] ∧ 2 ≤ b ∧ b ≤ 16 ∧ Q .non H
theorem use_need_base {b : Int} {H : Hp} {Q : VK} {E : XK} (h1 : 2 ≤ b) (h2 : b ≤ 16) (h : Q .non H) : sp_need_base ([.int b] ++ []) H Q E := ⟨_, rfl, h1, h2, h⟩
theorem ok_need_base (T : Txt K mg Z) : FnOk P w K mg base CX0 2 Z.f_need_base Z.d_need_base p_need_base sp_need_base := by
  refine T.F_need_base.ok sc_need_base (fun vs H Q E h => ?_) (fun cdv A outer s H vs Q E hr h => ?_)
  · obtain ⟨_, rfl, _⟩ := h; rfl
  · obtain ⟨b, rfl, h1, h2, h⟩ := h
    refine ⟨_, (pss_one (ps_if (pt_not (pt_val (pe_call (ok_is_from T) (hr.mono (by decide)) rfl T.g_is_from T.F_is_from.kp T.b_is_from .nil pass0 (pa_cons (pv 0) (pa_cons (pe_globI rfl T.v_LEAST_BASE) (pa_cons (pe_globI rfl T.v_MOST_BASE) pa_nil)))))) (pss_one ps_never) pss_nil)), ?_⟩
    walk_at "g"
    exact h
-- @USE
local macro_rules | `(tactic| walk_at "c") => `(tactic| ((with_reducible refine use_need_base ?h1 ?h2 ?h3); (case h1 => omega); (case h2 => omega)))

/-! ### need_divisor -/
def sp_need_divisor : Sp := fun vs H Q _ => ∃ d m : Int, vs = [.int d, .int m] ∧ 1 ≤ d ∧ d ≤ m ∧ Q .non H
theorem use_need_divisor {d m : Int} {H : Hp} {Q : VK} {E : XK} (h1 : 1 ≤ d) (h2 : d ≤ m) (h : Q .non H) : sp_need_divisor ([.int d, .int m] ++ []) H Q E := ⟨_, _, rfl, h1, h2, h⟩
theorem ok_need_divisor (T : Txt K mg Z) : FnOk P w K mg base CX0 2 Z.f_need_divisor Z.d_need_divisor p_need_divisor sp_need_divisor := by
  refine T.F_need_divisor.ok sc_need_divisor (fun vs H Q E h => ?_) (fun cdv A outer s H vs Q E hr h => ?_)
  · obtain ⟨_, _, rfl, _⟩ := h; rfl
  · obtain ⟨d, m, rfl, h1, h2, h⟩ := h
    refine ⟨_, (pss_one (ps_if (pt_not (pt_val (pe_call (ok_is_from T) (hr.mono (by decide)) rfl T.g_is_from T.F_is_from.kp T.b_is_from .nil pass0 (pa_cons (pv 0) (pa_cons pe_int (pa_cons (pv 1) pa_nil)))))) (pss_one ps_never) pss_nil)), ?_⟩
    walk_at "g"
    exact h
-- @USE
local macro_rules | `(tactic| walk_at "c") => `(tactic| ((with_reducible refine use_need_divisor ?h1 ?h2 ?h3); (case h1 => omega); (case h2 => omega)))

/-! ### common -/
def sp_common : Sp := fun vs H Q _ => ∃ m n : Int, vs = [.int m, .int n] ∧ Q (.int (Int.gcd m n)) H
theorem use_common {m n : Int} {H : Hp} {Q : VK} {E : XK} (h : Q (.int (Int.gcd m n)) H) : sp_common ([.int m, .int n] ++ []) H Q E := ⟨m, n, rfl, h⟩
theorem ok_common (T : Txt K mg Z) : FnOk P w K mg base CX0 1 Z.f_common Z.d_common p_common sp_common := by
  refine T.F_common.ok sc_common (fun vs H Q E h => ?_) (fun cdv A outer s H vs Q E hr h => ?_)
  · obtain ⟨_, _, rfl, _⟩ := h; rfl
  · obtain ⟨m, n, rfl, h⟩ := h
    refine ⟨_, (pss_cons (ps_par (i := 2) (j := 3) (by rfl) sc_common.nd rfl rfl (by decide) rfl rfl (pa_cons (pe_callB call_absR (by rfl) T.n_abs boot_abs (pa_cons (pv 0) pa_nil)) (pa_cons (pe_callB call_absR (by rfl) T.n_abs boot_abs (pa_cons (pv 1) pa_nil)) pa_nil)) (by rfl))
    (pss_cons (ps_while PassesOwn.never (pt_cmpR op_gt (pv 3) pe_int (nomark _))
    (pss_one (ps_par (i := 2) (j := 3) (by rfl) sc_common.nd rfl rfl (by decide) rfl rfl (pa_cons (pv 3) (pa_cons (pe_op op_mod (pv 2) (pv 3)) pa_nil)) (by rfl))))
    (pss_one (ps_ret (pv 2))))), ?_⟩
    walk_at "g"
    refine a_while (fun i σ H' => H' = H ∧ ∃ g l : Nat, σ = [some (.int m), some (.int n), some (.int g), some (.int l)] ∧ i = l ∧ Nat.gcd g l = Int.gcd m n) ⟨_, rfl, m.natAbs, n.natAbs, rfl, rfl, rfl⟩ ?_
    rintro i σ H' ⟨rfl, g, l, rfl, rfl, hg⟩
    walk_at "g"
    refine a_it2 (fun c => ?_) (fun c => ?_)
    · refine a_turn ?_
      walk_at "g"
      have e := Nat.gcd_rec i g
      rw [Nat.gcd_comm, e, Nat.gcd_comm] at hg
      exact ⟨g % i, Nat.mod_lt _ (by omega), rfl, i, g % i, rfl, rfl, hg⟩
    · walk_at "g"
      have e : i = 0 := by omega
      rw [e, Nat.gcd_zero_right] at hg
      rw [hg]
      exact h
-- @USE
local macro_rules | `(tactic| walk_at "c") => `(tactic| with_reducible refine use_common ?_)

/-! ### power -/
def sp_power : Sp := fun vs H Q _ => ∃ b m : Int, vs = [.int b, .int m] ∧ -(2 ^ 62) ≤ m ∧ m < 2 ^ 62 ∧ -(2 ^ 64) < b ∧ b < 2 ^ 64 ∧ Q (.int (b ^ m.toNat)) H
theorem use_power {b m : Int} {H : Hp} {Q : VK} {E : XK} (h1 : -(2 ^ 62) ≤ m ∧ m < 2 ^ 62 ∧ -(2 ^ 64) < b ∧ b < 2 ^ 64) (h : Q (.int (b ^ m.toNat)) H) : sp_power ([.int b, .int m] ++ []) H Q E := ⟨_, _, rfl, h1.1, h1.2.1, h1.2.2.1, h1.2.2.2, h⟩
theorem ok_power (T : Txt K mg Z) : FnOk P w K mg base CX0 1 Z.f_power Z.d_power p_power sp_power := by
  refine T.F_power.ok sc_power (fun vs H Q E h => ?_) (fun cdv A outer s H vs Q E hr h => ?_)
  · obtain ⟨_, _, rfl, _⟩ := h; rfl
  · obtain ⟨b, m, rfl, h1, h2, h3, h4, h⟩ := h
    refine ⟨_, (pss_cons (ps_set (i := 2) sc_power.nd rfl (Or.inl rfl) pe_int)
    (pss_cons (ps_for PassesOwn.never rfl (pi_range1 rfl T.n_range (pa_cons (pv 1) pa_nil)) (pg_name (i := 3) sc_power.nd rfl (Or.inl rfl))
    (pss_one (ps_set (i := 2) sc_power.nd rfl (Or.inl rfl) (pe_op op_mulX (pv 2) (pv 0)))))
    (pss_one (ps_ret (pv 2))))), ?_⟩
    walk_at "g"
    refine for_range (fun i σ H' => H' = H ∧ ∃ v, σ = [some (.int b), some (.int m), some (.int (b ^ i)), v]) ⟨rfl, none, by rw [Int.pow_zero]; rfl⟩ ?_ ?_
    · rintro i σ H' hi ⟨rfl, v, rfl⟩
      walk_at "g"
      exact ⟨rfl, _, by rw [Int.pow_succ]; rfl⟩
    · rintro σ H' ⟨rfl, v, rfl⟩
      walk_at "g"
      exact h
-- @USE
local macro_rules | `(tactic| walk_at "c") => `(tactic| ((with_reducible refine use_power ?h1 ?h2); (case h1 => omega)))

/-! ### Trick_init -/
/-- the fields of a trick -/
def trickF (b k t : Int) : List (Str × V) := [("basis", .int b), ("many", .int k), ("factor", .int t), ("block", .int (b ^ k.toNat))]
def TrickOk (b k t : Int) : Prop := (2 ≤ b ∧ b ≤ 16) ∧ (1 ≤ k ∧ k ≤ 2) ∧ -100 ≤ t ∧ t ≤ 100
def TrickAt (Z : Adr) (H : Hp) (a : Addr) (b k t : Int) : Prop := TrickOk b k t ∧ ∃ dx, H a = some (.ins Z.c_Trick dx (trickF b k t))
theorem TrickAt.up {B H : Hp} {Lw : List (Addr × HO)} {a : Addr} {b k t : Int} (O : Own B Lw H) (h : TrickAt Z B a b k t) : TrickAt Z H a b k t := by
  obtain ⟨h1, dx, h2⟩ := h
  exact ⟨h1, dx, O.st _ _ h2⟩
theorem TrickAt.same {B H : Hp} {a : Addr} {b k t : Int} (s : Same B H) (h : TrickAt Z B a b k t) : TrickAt Z H a b k t := by
  obtain ⟨h1, dx, h2⟩ := h
  exact ⟨h1, dx, s _ _ h2⟩
theorem block_small {b k : Int} (hb : 2 ≤ b ∧ b ≤ 16) (hk : 1 ≤ k ∧ k ≤ 2) : 2 ≤ b ^ k.toNat ∧ b ^ k.toNat ≤ 256 := by
  have e : k = 1 ∨ k = 2 := by omega
  rcases e with rfl | rfl
  · have z : b ^ (1 : Int).toNat = b := by rw [show (1 : Int).toNat = 1 from rfl, Int.pow_succ, Int.pow_zero, Int.one_mul]
    rw [z]; omega
  · have z : b ^ (2 : Int).toNat = b * b := by rw [show (2 : Int).toNat = 2 from rfl, Int.pow_succ, Int.pow_succ, Int.pow_zero, Int.one_mul]
    rw [z]
    have h1 : b * 2 ≤ b * b := Int.mul_le_mul_of_nonneg_left hb.1 (by omega)
    have h2 : b * b ≤ 16 * 16 := Int.mul_le_mul hb.2 hb.2 (by omega) (by omega)
    omega
theorem get_block {H : Hp} {a : Addr} {b k t : Int} {Q : VK} (T : Txt K mg Z) (h : TrickAt Z H a b k t) (q : Q (.int (b ^ k.toNat)) H) : rFld K "block" (.ref a) H Q := by
  obtain ⟨_, dx, h⟩ := h
  refine a_getF h T.cl_Trick T.nf_Trick_block ?_ q
  unfold trickF
  rw [lk_ne (by decide +kernel), lk_ne (by decide +kernel), lk_ne (by decide +kernel), lk_eq]
theorem get_factor {H : Hp} {a : Addr} {b k t : Int} {Q : VK} (T : Txt K mg Z) (h : TrickAt Z H a b k t) (q : Q (.int t) H) : rFld K "factor" (.ref a) H Q := by
  obtain ⟨_, dx, h⟩ := h
  refine a_getF h T.cl_Trick T.nf_Trick_factor ?_ q
  unfold trickF
  rw [lk_ne (by decide +kernel), lk_ne (by decide +kernel), lk_eq]
theorem get_many {H : Hp} {a : Addr} {b k t : Int} {Q : VK} (T : Txt K mg Z) (h : TrickAt Z H a b k t) (q : Q (.int k) H) : rFld K "many" (.ref a) H Q := by
  obtain ⟨_, dx, h⟩ := h
  refine a_getF h T.cl_Trick T.nf_Trick_many ?_ q
  unfold trickF
  rw [lk_ne (by decide +kernel), lk_eq]
theorem get_basis {H : Hp} {a : Addr} {b k t : Int} {Q : VK} (T : Txt K mg Z) (h : TrickAt Z H a b k t) (q : Q (.int b) H) : rFld K "basis" (.ref a) H Q := by
  obtain ⟨_, dx, h⟩ := h
  refine a_getF h T.cl_Trick T.nf_Trick_basis ?_ q
  unfold trickF
  rw [lk_eq]
def sp_Trick_init (C : Addr) : Sp := fun vs H Q _ => ∃ (x dx : Addr) (b k t : Int), vs = [.ref x, .int b, .int k, .int t] ∧ H x = some (.ins C dx []) ∧ TrickOk b k t ∧
  ∀ H', (∀ q v, q ≠ x → H q = some v → H' q = some v) → H' x = some (.ins C dx (trickF b k t)) → Q .non H'
theorem use_Trick {B H : Hp} {Lw : List (Addr × HO)} {b k t : Int} {Q : VK} {E : XK} (O : Own B Lw H) (hk : TrickOk b k t) (h : ∀ x B' H', B x = none → Same B B' → Own B' Lw H' → TrickAt Z B' x b k t → Q (.ref x) H') : NewI Z.c_Trick (sp_Trick_init Z.c_Trick) [] E [.int b, .int k, .int t] H Q := by
  intro x dx hx hdx ne
  have O1 := Own.new (o := .own x) O hdx
  have hx1 : upd H dx (.own x) x = none := by rw [upd_ne ne.symm]; exact hx
  have O2 := Own.new (o := .ins Z.c_Trick dx []) O1 hx1
  refine ⟨x, dx, b, k, t, rfl, upd_same, hk, fun H' k1 h1 => ⟨rfl, ?_⟩⟩
  have O3 : Own B ((x, .ins Z.c_Trick dx (trickF b k t)) :: (dx, .own x) :: Lw) H' := O2.but 0 rfl k1 h1
  exact h x _ H' (O.free hx) (O3.swap.fixS.trans O3.swap.fix.fixS) O3.swap.fix.fix ⟨hk, dx, upd_same⟩
theorem ok_Trick_init (T : Txt K mg Z) : FnOk P w K mg base CX0 3 Z.f_Trick_init Z.d_Trick_init p_Trick_init (sp_Trick_init Z.c_Trick) := by
  refine T.F_Trick_init.ok sc_Trick_init (fun vs H Q E h => ?_) (fun cdv A outer s H vs Q E hr h => ?_)
  · obtain ⟨_, _, _, _, _, rfl, _⟩ := h; rfl
  · obtain ⟨x, dx, b, k, t, rfl, hx, ⟨⟨hb1, hb2⟩, ⟨hk1, hk2⟩, ht1, ht2⟩, h⟩ := h
    have O := Own.refl1 hx
    refine ⟨_, (pss_cons (ps_expr (pe_call (ok_need_base T) (hr.mono (by decide)) rfl T.g_need_base T.F_need_base.kp T.b_need_base .nil pass0 (pa_cons (pv 1) pa_nil)))
    (pss_cons (ps_if (pt_not (pt_val (pe_call (ok_is_from T) (hr.mono (by decide)) rfl T.g_is_from T.F_is_from.kp T.b_is_from .nil pass0 (pa_cons (pv 2) (pa_cons pe_int (pa_cons (pe_globI rfl T.v_MOST_TAKE) pa_nil)))))) (pss_one ps_never) pss_nil)
    (pss_cons (ps_if (pt_not (pt_val (pe_call (ok_is_from T) (hr.mono (by decide)) rfl T.g_is_from T.F_is_from.kp T.b_is_from .nil pass0 (pa_cons (pv 3) (pa_cons (pe_un un_neg (pe_globI rfl T.v_MOST_TIMES)) (pa_cons (pe_globI rfl T.v_MOST_TIMES) pa_nil)))))) (pss_one ps_never) pss_nil)
    (pss_cons (ps_fld (pv 0) (pv 1) rfl)
    (pss_cons (ps_fld (pv 0) (pv 2) rfl)
    (pss_cons (ps_fld (pv 0) (pv 3) rfl)
    (pss_one (ps_fld (pv 0) (pe_call (ok_power T) (hr.mono (by decide)) rfl T.g_power T.F_power.kp T.b_power .nil pass0 (pa_cons (pv 1) (pa_cons (pv 2) pa_nil))) rfl)))))))), ?_⟩
    have n1 : ¬ ("basis" : Str) = "many" := by decide +kernel
    have n2 : ¬ ("basis" : Str) = "factor" := by decide +kernel
    have n3 : ¬ ("many" : Str) = "factor" := by decide +kernel
    have n4 : ¬ ("basis" : Str) = "block" := by decide +kernel
    have n5 : ¬ ("many" : Str) = "block" := by decide +kernel
    have n6 : ¬ ("factor" : Str) = "block" := by decide +kernel
    walk_at "g"
    refine a_setF O 0 rfl T.cl_Trick T.nf_Trick_basis (Nat.lt_of_le_of_lt (Nat.le_refl 0) (by decide)) (fun H1 O => ?_)
    simp only [List.set, put_nil] at O
    walk_at "g"
    refine a_setF O 0 rfl T.cl_Trick T.nf_Trick_many (Nat.lt_of_le_of_lt (Nat.le_refl 1) (by decide)) (fun H2 O => ?_)
    simp only [List.set, put_ne n1, put_nil] at O
    walk_at "g"
    refine a_setF O 0 rfl T.cl_Trick T.nf_Trick_factor (Nat.lt_of_le_of_lt (Nat.le_refl 2) (by decide)) (fun H3 O => ?_)
    simp only [List.set, put_ne n2, put_ne n3, put_nil] at O
    walk_at "g"
    refine a_setF O 0 rfl T.cl_Trick T.nf_Trick_block (Nat.lt_of_le_of_lt (Nat.le_refl 3) (by decide)) (fun H4 O => ?_)
    simp only [List.set, put_ne n4, put_ne n5, put_ne n6, put_nil] at O
    exact h _ (Own.toBut O) (O.get 0 rfl)
-- @USE
local macro_rules | `(tactic| walk_at "tr") => `(tactic| first | assumption | (refine' TrickAt.up ?k1 ?k2; (case k1 => assumption); (case k2 => assumption)))
local macro_rules | `(tactic| walk_at "c") => `(tactic| first
  | ((with_reducible refine' get_block ?k1 ?k2 ?k3); (case k1 => assumption); (case k2 => walk_at "tr"))
  | ((with_reducible refine' get_factor ?k1 ?k2 ?k3); (case k1 => assumption); (case k2 => walk_at "tr"))
  | ((with_reducible refine' get_many ?k1 ?k2 ?k3); (case k1 => assumption); (case k2 => walk_at "tr"))
  | ((with_reducible refine' get_basis ?k1 ?k2 ?k3); (case k1 => assumption); (case k2 => walk_at "tr")))

/-! ### need_trick -/
-- @NEEDS Trick_init
def sp_need_trick (Z : Adr) : Sp := fun vs H Q _ => ∃ (a : Addr) (b k t : Int), vs = [.ref a] ∧ TrickAt Z H a b k t ∧ Q .non H
theorem use_need_trick {a : Addr} {b k t : Int} {H : Hp} {Q : VK} {E : XK} (h1 : TrickAt Z H a b k t) (h : Q .non H) : sp_need_trick Z ([.ref a] ++ []) H Q E := ⟨a, b, k, t, rfl, h1, h⟩
theorem ok_need_trick (T : Txt K mg Z) : FnOk P w K mg base CX0 1 Z.f_need_trick Z.d_need_trick p_need_trick (sp_need_trick Z) := by
  refine T.F_need_trick.ok sc_need_trick (fun vs H Q E h => ?_) (fun cdv A outer s H vs Q E hr h => ?_)
  · obtain ⟨_, _, _, _, rfl, _⟩ := h; rfl
  · obtain ⟨a, b, k, t, rfl, ha, h⟩ := h
    refine ⟨_, (pss_one (ps_if (pt_not (pt_val (pe_callB (r := rIsi K) call_isi (by rfl) T.n_isinstance boot_isinstance (pa_cons (pv 0) (pa_cons (pe_glob rfl T.g_Trick (v := .ref Z.c_Trick) rfl) pa_nil))))) (pss_one ps_never) pss_nil)), ?_⟩
    walk_at "g"
    obtain ⟨_, dx, h2⟩ := ha
    refine ⟨_, _, _, _, true, rfl, .own _, .base (.ins h2 T.is_Trick.cl T.is_Trick.ha T.is_Trick.hn T.is_Trick.htk T.is_Trick.hm), T.is_Trick.me, ?_⟩
    walk_at "g"
    exact h
-- @USE
local macro_rules | `(tactic| walk_at "c") => `(tactic| ((with_reducible refine' use_need_trick ?k1 ?k2); (case k1 => walk_at "tr")))

/-! ### behind -/
-- @NEEDS Trick_init
def sp_behind (Z : Adr) : Sp := fun vs H Q _ => ∃ (a : Addr) (b k t n : Int), vs = [.ref a, .int n] ∧ TrickAt Z H a b k t ∧ Q (.int (beh b k t n)) H
theorem use_behind {a : Addr} {b k t n : Int} {H : Hp} {Q : VK} {E : XK} (h1 : TrickAt Z H a b k t) (h : Q (.int (beh b k t n)) H) : sp_behind Z ([.ref a, .int n] ++ []) H Q E := ⟨a, b, k, t, n, rfl, h1, h⟩
theorem ok_behind (T : Txt K mg Z) : FnOk P w K mg base CX0 1 Z.f_behind Z.d_behind p_behind (sp_behind Z) := by
  refine T.F_behind.ok sc_behind (fun vs H Q E h => ?_) (fun cdv A outer s H vs Q E hr h => ?_)
  · obtain ⟨_, _, _, _, _, rfl, _⟩ := h; rfl
  · obtain ⟨a, b, k, t, n, rfl, ha, h⟩ := h
    have bs := block_small ha.1.1 ha.1.2.1
    have ht := ha.1.2.2
    unfold beh at h
    refine ⟨_, (pss_one (ps_ret (pe_op op_add (pe_op op_fdivW (pv 1) (pe_fld (pv 0) rfl)) (pe_op op_mulX (pe_fld (pv 0) rfl) (pe_op op_mod (pv 1) (pe_fld (pv 0) rfl)))))), ?_⟩
    walk_at "g"
    exact h
-- @USE
local macro_rules | `(tactic| walk_at "c") => `(tactic| ((with_reducible refine' use_behind ?k1 ?k2); (case k1 => walk_at "tr")))

/-! ### word_of -/
def wordO (u f : Option Int) : Str := if u = none then "rest" else if f = none then "multiples" else "nothing"
def sp_word_of : Sp := fun vs H Q _ => ∃ u f : Option Int, vs = [optV u, optV f] ∧ Q (.str (wordO u f)) H
theorem use_word_of {u f : Option Int} {H : Hp} {Q : VK} {E : XK} (h : Q (.str (wordO u f)) H) : sp_word_of ([optV u, optV f] ++ []) H Q E := ⟨u, f, rfl, h⟩
theorem ok_word_of (T : Txt K mg Z) : FnOk P w K mg base CX0 1 Z.f_word_of Z.d_word_of p_word_of sp_word_of := by
  refine T.F_word_of.ok sc_word_of (fun vs H Q E h => ?_) (fun cdv A outer s H vs Q E hr h => ?_)
  · obtain ⟨_, _, rfl, _⟩ := h; rfl
  · obtain ⟨u, f, rfl, h⟩ := h
    refine ⟨_, (pss_cons (ps_if (pt_cmpR op_isN1 (pv 0) pe_non (nomark _)) (pss_one (ps_ret pe_str)) pss_nil)
    (pss_one (ps_ret (pe_ifExp (pt_cmpR op_isN1 (pv 1) pe_non (nomark _)) pe_str pe_str)))), ?_⟩
    cases u with
    | none =>
      walk_at "g"
      exact h
    | some u =>
      cases f with
      | none =>
        walk_at "g"
        exact h
      | some f =>
        walk_at "g"
        exact h
-- @USE
local macro_rules | `(tactic| walk_at "c") => `(tactic| with_reducible refine use_word_of ?_)

/-! ### factor_by -/
-- @NEEDS Trick_init common
def sp_factor_by (Z : Adr) : Sp := fun vs H Q _ => ∃ (a : Addr) (b k t d : Int), vs = [.ref a, .int d] ∧ TrickAt Z H a b k t ∧ (1 ≤ d ∧ d ≤ 100) ∧ Q (optV (facO b k t d)) H
theorem use_factor_by {a : Addr} {b k t d : Int} {H : Hp} {Q : VK} {E : XK} (h1 : TrickAt Z H a b k t) (h2 : 1 ≤ d ∧ d ≤ 100) (h : Q (optV (facO b k t d)) H) : sp_factor_by Z ([.ref a, .int d] ++ []) H Q E := ⟨a, b, k, t, d, rfl, h1, h2, h⟩
theorem ok_factor_by (T : Txt K mg Z) : FnOk P w K mg base CX0 2 Z.f_factor_by Z.d_factor_by p_factor_by (sp_factor_by Z) := by
  refine T.F_factor_by.ok sc_factor_by (fun vs H Q E h => ?_) (fun cdv A outer s H vs Q E hr h => ?_)
  · obtain ⟨_, _, _, _, _, rfl, _⟩ := h; rfl
  · obtain ⟨a, b, k, t, d, rfl, ha, ⟨hd1, hd2⟩, h⟩ := h
    have bs := block_small ha.1.1 ha.1.2.1
    have t0 := Int.emod_nonneg t (show d ≠ 0 by omega)
    have t1 := Int.emod_lt_of_pos t (show 0 < d by omega)
    refine ⟨_, (pss_cons (ps_if (pt_cmpR op_ne (pe_call (ok_common T) (hr.mono (by decide)) rfl T.g_common T.F_common.kp T.b_common .nil pass0 (pa_cons (pe_fld (pv 0) rfl) (pa_cons (pv 1) pa_nil))) pe_int (nomark _)) (pss_one (ps_ret pe_non)) pss_nil)
    (pss_cons (ps_set (i := 2) sc_factor_by.nd rfl (Or.inl rfl) (pe_op op_mod (pe_fld (pv 0) rfl) (pv 1)))
    (pss_one (ps_ret (pe_ifExp (pt_cmpR op_eq (pe_op op_mod (pe_op op_mulX (pv 2) (pe_fld (pv 0) rfl)) (pv 1)) (pe_op op_mod pe_int (pv 1)) (nomark _)) (pv 2) pe_non))))), ?_⟩
    walk_at "g"
    refine a_ni2 (fun c => ?_) (fun c => ?_)
    · walk_at "g"
      rw [rest_mul]
      refine a_it2 (fun c2 => ?_) (fun c2 => ?_)
      · walk_at "g"
        unfold facO at h
        rw [if_pos c2] at h
        exact h
      · walk_at "g"
        unfold facO at h
        rw [if_neg c2] at h
        exact h
    · walk_at "g"
      unfold facO at h
      rw [if_neg (fun z => c (by rw [good_gcd z]; rfl))] at h
      exact h
-- @USE
local macro_rules | `(tactic| walk_at "c") => `(tactic| ((with_reducible refine' use_factor_by ?k1 ?k2 ?k3); (case k1 => walk_at "tr"); (case k2 => omega)))

/-! ### factor -/
-- @NEEDS Trick_init need_trick need_divisor factor_by
def sp_factor (Z : Adr) : Sp := fun vs H Q _ => ∃ (a : Addr) (b k t d : Int), vs = [.ref a, .int d] ∧ TrickAt Z H a b k t ∧ (1 ≤ d ∧ d ≤ 100) ∧ Q (optV (facO b k t d)) H
theorem use_factor {a : Addr} {b k t d : Int} {H : Hp} {Q : VK} {E : XK} (h1 : TrickAt Z H a b k t) (h2 : 1 ≤ d ∧ d ≤ 100) (h : Q (optV (facO b k t d)) H) : sp_factor Z ([.ref a, .int d] ++ []) H Q E := ⟨a, b, k, t, d, rfl, h1, h2, h⟩
theorem ok_factor (T : Txt K mg Z) : FnOk P w K mg base CX0 3 Z.f_factor Z.d_factor p_factor (sp_factor Z) := by
  refine T.F_factor.ok sc_factor (fun vs H Q E h => ?_) (fun cdv A outer s H vs Q E hr h => ?_)
  · obtain ⟨_, _, _, _, _, rfl, _⟩ := h; rfl
  · obtain ⟨a, b, k, t, d, rfl, ha, ⟨hd1, hd2⟩, h⟩ := h
    refine ⟨_, (pss_cons (ps_expr (pe_call (ok_need_trick T) (hr.mono (by decide)) rfl T.g_need_trick T.F_need_trick.kp T.b_need_trick .nil pass0 (pa_cons (pv 0) pa_nil)))
    (pss_cons (ps_expr (pe_call (ok_need_divisor T) (hr.mono (by decide)) rfl T.g_need_divisor T.F_need_divisor.kp T.b_need_divisor .nil pass0 (pa_cons (pv 1) (pa_cons (pe_globI rfl T.v_MOST_DIVISOR) pa_nil))))
    (pss_one (ps_ret (pe_call (ok_factor_by T) (hr.mono (by decide)) rfl T.g_factor_by T.F_factor_by.kp T.b_factor_by .nil pass0 (pa_cons (pv 0) (pa_cons (pv 1) pa_nil))))))), ?_⟩
    walk_at "g"
    exact h
-- @USE
local macro_rules | `(tactic| walk_at "c") => `(tactic| ((with_reducible refine' use_factor ?k1 ?k2 ?k3); (case k1 => walk_at "tr"); (case k2 => omega)))

/-! ### need_tricks -/
-- @NEEDS Trick_init
/-- tricks that stand in a list or tuple -/
def TricksAt (Z : Adr) (H : Hp) (a : Addr) (l : List Tr) : Prop := ∃ xs : List V, EAt H a xs ∧ xs.length = l.length ∧ (∀ x ∈ l, TrOk x) ∧ ∀ (i : Nat) (x : V), xs[i]? = some x → ∃ (q : Addr) (y : Tr), l[i]? = some y ∧ x = .ref q ∧ TrickAt Z H q y.1 y.2.1 y.2.2
theorem TricksAt.same {B H : Hp} {a : Addr} {l : List Tr} (s : Same B H) (h : TricksAt Z B a l) : TricksAt Z H a l := by
  obtain ⟨xs, h1, h2, h3, h4⟩ := h
  refine ⟨xs, h1.up s, h2, h3, fun i x hi => ?_⟩
  obtain ⟨q, y, e1, e2, e3⟩ := h4 i x hi
  exact ⟨q, y, e1, e2, e3.same s⟩
def sp_need_tricks (Z : Adr) : Sp := fun vs H Q _ => ∃ (a : Addr) (l : List Tr), vs = [.ref a] ∧ TricksAt Z H a l ∧ (1 ≤ l.length ∧ l.length ≤ 4) ∧ ∀ H', Same H H' → Q .non H'
theorem ok_need_tricks (T : Txt K mg Z) : FnOk P w K mg base CX0 1 Z.f_need_tricks Z.d_need_tricks p_need_tricks (sp_need_tricks Z) := by
  refine T.F_need_tricks.ok sc_need_tricks (fun vs H Q E h => ?_) (fun cdv A outer s H vs Q E hr h => ?_)
  · obtain ⟨_, _, rfl, _⟩ := h; rfl
  · obtain ⟨a, l, rfl, ⟨xs, hxs, hl, hok, hx⟩, hl1, h⟩ := h
    have O := Own.refl H
    refine ⟨_, (pss_cons (ps_if (PW.pt (pw_or (pt_not (pt_val (pe_callB (r := rIsiT K) call_isiT (by rfl) T.n_isinstance boot_isinstance (pa_cons (pv 0) (pa_cons (pe_tup (pa_cons (pe_bltn (v := .ty "list") (by rfl) T.n_list boot_list rfl) (pa_cons (pe_bltn (v := .ty "tuple") (by rfl) T.n_tuple boot_tuple rfl) pa_nil))) pa_nil))))) (pw_or1 (pt_not (pt_chain op_le op_le pe_int (pe_callB (r := rLen K) call_lenR (by rfl) T.n_len boot_len (pa_cons (pv 0) pa_nil)) (pe_globI rfl T.v_MOST_TRICKS)))))) (pss_one ps_never) pss_nil)
    (pss_one (ps_for PassesOwn.never rfl (pi_either (pi_enum rfl T.n_enumerate (pa_cons (pv 0) pa_nil)) (pi_enumT rfl T.n_enumerate (pa_cons (pv 0) pa_nil))) (pg_tup rfl (pgs_cons (pg_name (i := 1) sc_need_tricks.nd rfl (Or.inl rfl)) (pgs_cons (pg_name (i := 2) sc_need_tricks.nd rfl (Or.inl rfl)) pgs_nil)))
    (pss_one (ps_if (pt_not (pt_val (pe_callB (r := rIsi K) call_isi (by rfl) T.n_isinstance boot_isinstance (pa_cons (pv 2) (pa_cons (pe_glob rfl T.g_Trick (v := .ref Z.c_Trick) rfl) pa_nil))))) (pss_one ps_never) pss_nil))))), ?_⟩
    walk_at "g"; walk_at "mkT"; intro tp H1 htp O
    walk_at "g"
    refine a_isiE (hxs.up O.st) (O.get 0 rfl) ?_
    walk_at "g"
    refine a_lenE (hxs.up O.st) ?_
    walk_at "g"
    refine for_enumE (hxs.up O.st) rfl (fun i σ H' => ∃ v1 v2 Lw, σ = [some (.ref a), v1, v2] ∧ Own H1 Lw H') ⟨none, none, [], rfl, Own.refl H1⟩ (fun i σ H' ⟨_, _, _, _, O⟩ => O.st) ?_ ?_
    · rintro i x T2 σ H' hi ⟨v1, v2, Lw, rfl, O2⟩ hT
      obtain ⟨q, y, e1, rfl, ta⟩ := hx i x hi
      have O2 := Own.new (o := .tup [.int (i : Nat), .ref q]) O2 hT
      walk_at "g"
      have ta := (ta.same O.st).same O2.st
      obtain ⟨_, dx, h2⟩ := ta
      refine ⟨_, _, _, _, true, rfl, .own _, .base (.ins h2 T.is_Trick.cl T.is_Trick.ha T.is_Trick.hn T.is_Trick.htk T.is_Trick.hm), T.is_Trick.me, ?_⟩
      walk_at "g"
      exact ⟨_, _, _, rfl, O2⟩
    · rintro σ H' ⟨v1, v2, Lw, rfl, O2⟩
      walk_at "g"
      exact h _ (Same.trans O.st O2.st)

/-! ### behind_all -/
-- @NEEDS Trick_init behind need_tricks
def sp_behind_all (Z : Adr) : Sp := fun vs H Q _ => ∃ (a : Addr) (l : List Tr) (n : Int), vs = [.ref a, .int n] ∧ TricksAt Z H a l ∧ Q (.int (behA l n)) H
theorem ok_behind_all (T : Txt K mg Z) : FnOk P w K mg base CX0 2 Z.f_behind_all Z.d_behind_all p_behind_all (sp_behind_all Z) := by
  refine T.F_behind_all.ok sc_behind_all (fun vs H Q E h => ?_) (fun cdv A outer s H vs Q E hr h => ?_)
  · obtain ⟨_, _, _, rfl, _⟩ := h; rfl
  · obtain ⟨a, l, n, rfl, ⟨xs, hxs, hl, hok, hx⟩, h⟩ := h
    refine ⟨_, (pss_cons (ps_for PassesOwn.never rfl (pi_either (pi_list (pv 0)) (pi_tup (pv 0))) (pg_name (i := 2) sc_behind_all.nd rfl (Or.inl rfl))
    (pss_one (ps_set (i := 1) sc_behind_all.nd rfl (Or.inl rfl) (pe_call (ok_behind T) (hr.mono (by decide)) rfl T.g_behind T.F_behind.kp T.b_behind .nil pass0 (pa_cons (pv 2) (pa_cons (pv 1) pa_nil))))))
    (pss_one (ps_ret (pv 1)))), ?_⟩
    walk_at "g"
    refine for_E hxs rfl (fun i σ H' => H' = H ∧ ∃ v, σ = [some (.ref a), some (.int (behA (l.take i) n)), v]) ⟨rfl, none, rfl⟩ (fun i σ H' ⟨e, _⟩ => by rw [e]; exact Same.refl H) ?_ ?_
    · rintro i x σ H' hi ⟨rfl, v, rfl⟩
      obtain ⟨q, y, e1, rfl, ta⟩ := hx i x hi
      walk_at "g"
      obtain ⟨hi, e⟩ := List.getElem?_eq_some_iff.mp e1
      refine ⟨rfl, some (.ref q), ?_⟩
      rw [behA_take hi, e]
      rfl
    · rintro σ H' ⟨rfl, v, rfl⟩
      walk_at "g"
      rw [hl, List.take_length]
      exact h

/-! ### wide_of -/
-- @NEEDS Trick_init need_tricks
def sp_wide_of (Z : Adr) : Sp := fun vs H Q _ => ∃ (a : Addr) (l : List Tr) (xs : List V), vs = [.ref a] ∧ TricksAt Z H a l ∧ H a = some (.lst xs) ∧ wideA l ≤ 300 ∧ Q (.int (wideA l)) H
theorem tricks_list {H : Hp} {a : Addr} {l : List Tr} {xs : List V} (ha : TricksAt Z H a l) (h : H a = some (.lst xs)) : xs.length = l.length ∧ (∀ x ∈ l, TrOk x) ∧ ∀ (i : Nat) (x : V), xs[i]? = some x → ∃ (q : Addr) (y : Tr), l[i]? = some y ∧ x = .ref q ∧ TrickAt Z H q y.1 y.2.1 y.2.2 := by
  obtain ⟨ys, h1, h2, h3, h4⟩ := ha
  rcases h1 with h1 | h1
  · rw [h] at h1
    cases h1
    exact ⟨h2, h3, h4⟩
  · rw [h] at h1
    cases h1
theorem wideA_le {l : List Tr} (h : ∀ x ∈ l, TrOk x) : ∀ i : Nat, wideA (l.take i) ≤ wideA l
  | 0 => by
    have q := wideA_pos h
    show (1 : Int) ≤ wideA l
    omega
  | i + 1 => by
    by_cases c : i + 1 ≤ l.length
    · have e : l = l.take (i + 1) ++ l.drop (i + 1) := (List.take_append_drop _ _).symm
      have w : ∀ a b : List Tr, wideA (a ++ b) = wideA a * wideA b := fun a b => by
        induction a with
        | nil => show wideA b = 1 * wideA b; rw [Int.one_mul]
        | cons x a ih => show blk x * wideA (a ++ b) = blk x * wideA a * wideA b; rw [ih, Int.mul_assoc]
      have p1 := wideA_pos (l := l.take (i + 1)) fun x hx => h x (List.mem_of_mem_take hx)
      have p2 := wideA_pos (l := l.drop (i + 1)) fun x hx => h x (List.mem_of_mem_drop hx)
      have z := w (l.take (i + 1)) (l.drop (i + 1))
      rw [← e] at z
      have q : wideA (l.take (i + 1)) * 1 ≤ wideA (l.take (i + 1)) * wideA (l.drop (i + 1)) := Int.mul_le_mul_of_nonneg_left (by omega) (by omega)
      omega
    · rw [List.take_of_length_le (by omega)]
      exact Int.le_refl _
theorem ok_wide_of (T : Txt K mg Z) : FnOk P w K mg base CX0 1 Z.f_wide_of Z.d_wide_of p_wide_of (sp_wide_of Z) := by
  refine T.F_wide_of.ok sc_wide_of (fun vs H Q E h => ?_) (fun cdv A outer s H vs Q E hr h => ?_)
  · obtain ⟨_, _, _, rfl, _⟩ := h; rfl
  · obtain ⟨a, l, xs, rfl, ha, hxs, hw, h⟩ := h
    obtain ⟨hl, hok, hx⟩ := tricks_list ha hxs
    refine ⟨_, (pss_cons (ps_set (i := 1) sc_wide_of.nd rfl (Or.inl rfl) pe_int)
    (pss_cons (ps_for PassesOwn.never rfl (pi_list (pv 0)) (pg_name (i := 2) sc_wide_of.nd rfl (Or.inl rfl))
    (pss_one (ps_set (i := 1) sc_wide_of.nd rfl (Or.inl rfl) (pe_op op_mulX (pv 1) (pe_fld (pv 2) rfl)))))
    (pss_one (ps_ret (pv 1))))), ?_⟩
    walk_at "g"
    refine ⟨a, rfl, ⟨xs, SqL.of hxs⟩, ?_⟩
    refine for_list (xs := xs) (fun i σ H' => H' = H ∧ ∃ v, σ = [some (.ref a), some (.int (wideA (l.take i))), v]) ⟨rfl, none, rfl⟩ (fun i σ H' _ ⟨e, _⟩ => by rw [e]; exact SqL.of hxs) ?_ ?_
    · rintro i x σ H' hi ⟨rfl, v, rfl⟩
      obtain ⟨q, y, e1, rfl, ta⟩ := hx i x hi
      obtain ⟨hi, e⟩ := List.getElem?_eq_some_iff.mp e1
      have w0 := wideA_pos (l := l.take i) fun x hx => hok x (List.mem_of_mem_take hx)
      have w1 := wideA_le hok i
      walk_at "g"
      refine ⟨rfl, some (.ref q), ?_⟩
      rw [wideA_take hi, e]
      rfl
    · rintro σ H' ⟨rfl, v, rfl⟩
      walk_at "g"
      rw [hl, List.take_length]
      exact h

/-! ### need_chain -/
-- @NEEDS Trick_init need_tricks need_divisor wide_of
def sp_need_chain (Z : Adr) : Sp := fun vs H Q _ => ∃ (a : Addr) (l : List Tr) (xs : List V) (d : Int), vs = [.ref a, .int d] ∧ TricksAt Z H a l ∧ H a = some (.lst xs) ∧ (1 ≤ l.length ∧ l.length ≤ 4) ∧ (1 ≤ d ∧ d ≤ 30) ∧ wideA l ≤ 300 ∧ ∀ H', Same H H' → Q .non H'
theorem ok_need_chain (T : Txt K mg Z) : FnOk P w K mg base CX0 3 Z.f_need_chain Z.d_need_chain p_need_chain (sp_need_chain Z) := by
  refine T.F_need_chain.ok sc_need_chain (fun vs H Q E h => ?_) (fun cdv A outer s H vs Q E hr h => ?_)
  · obtain ⟨_, _, _, _, rfl, _⟩ := h; rfl
  · obtain ⟨a, l, xs, d, rfl, ha, hxs, hl, ⟨hd1, hd2⟩, hw, h⟩ := h
    refine ⟨_, (pss_cons (ps_expr (pe_call (ok_need_tricks T) (hr.mono (by decide)) rfl T.g_need_tricks T.F_need_tricks.kp T.b_need_tricks .nil pass0 (pa_cons (pv 0) pa_nil)))
    (pss_cons (ps_expr (pe_call (ok_need_divisor T) (hr.mono (by decide)) rfl T.g_need_divisor T.F_need_divisor.kp T.b_need_divisor .nil pass0 (pa_cons (pv 1) (pa_cons (pe_globI rfl T.v_MOST_CHAIN_DIVISOR) pa_nil))))
    (pss_one (ps_if (pt_cmpR op_gt (pe_call (ok_wide_of T) (hr.mono (by decide)) rfl T.g_wide_of T.F_wide_of.kp T.b_wide_of .nil pass0 (pa_cons (pv 0) pa_nil)) (pe_globI rfl T.v_MOST_WIDE) (nomark _)) (pss_one ps_never) pss_nil)))), ?_⟩
    walk_at "g"
    refine ⟨a, l, rfl, ha, hl, fun H' s => ?_⟩
    walk_at "g"
    refine ⟨a, l, xs, rfl, ha.same s, s _ _ hxs, hw, ?_⟩
    walk_at "g"
    exact h _ s

/-! ### first_fail -/
-- @NEEDS Trick_init need_tricks wide_of behind_all
def sp_first_fail (Z : Adr) : Sp := fun vs H Q _ => ∃ (a : Addr) (l : List Tr) (xs : List V) (d : Int), vs = [.ref a, .int d] ∧ TricksAt Z H a l ∧ H a = some (.lst xs) ∧ (1 ≤ d ∧ d ≤ 30) ∧ wideA l ≤ 300 ∧ Q (optV (fstB (flsA l d) (d * wideA l).toNat)) H
theorem ok_first_fail (T : Txt K mg Z) : FnOk P w K mg base CX0 3 Z.f_first_fail Z.d_first_fail p_first_fail (sp_first_fail Z) := by
  refine T.F_first_fail.ok sc_first_fail (fun vs H Q E h => ?_) (fun cdv A outer s H vs Q E hr h => ?_)
  · obtain ⟨_, _, _, _, rfl, _⟩ := h; rfl
  · obtain ⟨a, l, xs, d, rfl, ha, hxs, ⟨hd1, hd2⟩, hw, h⟩ := h
    have w0 := wideA_pos (tricks_list ha hxs).2.1
    have hM0 : 0 ≤ d * wideA l := Int.mul_nonneg (by omega) (by omega)
    have hM1 : d * wideA l ≤ 30 * 300 := Int.mul_le_mul hd2 hw (by omega) (by omega)
    refine ⟨_, (pss_cons (ps_for PassesOwn.never rfl (pi_range1 rfl T.n_range (pa_cons (pe_op op_mulX (pv 1) (pe_call (ok_wide_of T) (hr.mono (by decide)) rfl T.g_wide_of T.F_wide_of.kp T.b_wide_of .nil pass0 (pa_cons (pv 0) pa_nil))) pa_nil)) (pg_name (i := 2) sc_first_fail.nd rfl (Or.inl rfl))
    (pss_one (ps_if (pt_cmpR op_ne (pe_cmpR op_eq (pe_op op_mod (pv 2) (pv 1)) pe_int (nomark _)) (pe_cmpR op_eq (pe_op op_mod (pe_call (ok_behind_all T) (hr.mono (by decide)) rfl T.g_behind_all T.F_behind_all.kp T.b_behind_all .nil pass0 (pa_cons (pv 0) (pa_cons (pv 2) pa_nil))) (pv 1)) pe_int (nomark _)) (nomark _)) (pss_one (ps_ret (pv 2))) pss_nil)))
    (pss_one (ps_ret pe_non))), ?_⟩
    walk_at "g"
    refine ⟨a, l, xs, rfl, ha, hxs, hw, ?_⟩
    walk_at "g"
    generalize d * wideA l = M at *
    walk_at "g"
    refine for_range (fun i σ H' => H' = H ∧ (∃ v, σ = [some (.ref a), some (.int d), v]) ∧ fstB (flsA l d) i = none) ⟨rfl, ⟨none, rfl⟩, rfl⟩ ?_ ?_
    · rintro i σ H' hi ⟨rfl, ⟨v, rfl⟩, hno⟩
      walk_at "g"
      refine ⟨a, l, _, rfl, ha, ?_⟩
      rw [Int.zero_add]
      walk_at "g"
      refine a_itB (b := flsA l d i) (fun c => ?_) (fun c => ?_)
      · walk_at "g"
        rw [fstB_hit hno c _ hi] at h
        exact h
      · walk_at "g"
        exact ⟨rfl, ⟨_, rfl⟩, fstB_no hno c⟩
    · rintro σ H' ⟨rfl, ⟨v, rfl⟩, hno⟩
      walk_at "g"
      rw [hno] at h
      exact h

/-! ### first_unlike -/
-- @NEEDS Trick_init need_tricks wide_of behind_all
def sp_first_unlike (Z : Adr) : Sp := fun vs H Q _ => ∃ (a : Addr) (l : List Tr) (xs : List V) (d : Int), vs = [.ref a, .int d] ∧ TricksAt Z H a l ∧ H a = some (.lst xs) ∧ (1 ≤ d ∧ d ≤ 30) ∧ wideA l ≤ 300 ∧ Q (optV (fstB (unlA l d) (d * wideA l).toNat)) H
theorem ok_first_unlike (T : Txt K mg Z) : FnOk P w K mg base CX0 3 Z.f_first_unlike Z.d_first_unlike p_first_unlike (sp_first_unlike Z) := by
  refine T.F_first_unlike.ok sc_first_unlike (fun vs H Q E h => ?_) (fun cdv A outer s H vs Q E hr h => ?_)
  · obtain ⟨_, _, _, _, rfl, _⟩ := h; rfl
  · obtain ⟨a, l, xs, d, rfl, ha, hxs, ⟨hd1, hd2⟩, hw, h⟩ := h
    have w0 := wideA_pos (tricks_list ha hxs).2.1
    have hM0 : 0 ≤ d * wideA l := Int.mul_nonneg (by omega) (by omega)
    have hM1 : d * wideA l ≤ 30 * 300 := Int.mul_le_mul hd2 hw (by omega) (by omega)
    refine ⟨_, (pss_cons (ps_for PassesOwn.never rfl (pi_range1 rfl T.n_range (pa_cons (pe_op op_mulX (pv 1) (pe_call (ok_wide_of T) (hr.mono (by decide)) rfl T.g_wide_of T.F_wide_of.kp T.b_wide_of .nil pass0 (pa_cons (pv 0) pa_nil))) pa_nil)) (pg_name (i := 2) sc_first_unlike.nd rfl (Or.inl rfl))
    (pss_one (ps_if (pt_cmpR op_ne (pe_op op_mod (pv 2) (pv 1)) (pe_op op_mod (pe_call (ok_behind_all T) (hr.mono (by decide)) rfl T.g_behind_all T.F_behind_all.kp T.b_behind_all .nil pass0 (pa_cons (pv 0) (pa_cons (pv 2) pa_nil))) (pv 1)) (nomark _)) (pss_one (ps_ret (pv 2))) pss_nil)))
    (pss_one (ps_ret pe_non))), ?_⟩
    walk_at "g"
    refine ⟨a, l, xs, rfl, ha, hxs, hw, ?_⟩
    walk_at "g"
    generalize d * wideA l = M at *
    walk_at "g"
    refine for_range (fun i σ H' => H' = H ∧ (∃ v, σ = [some (.ref a), some (.int d), v]) ∧ fstB (unlA l d) i = none) ⟨rfl, ⟨none, rfl⟩, rfl⟩ ?_ ?_
    · rintro i σ H' hi ⟨rfl, ⟨v, rfl⟩, hno⟩
      walk_at "g"
      refine ⟨a, l, _, rfl, ha, ?_⟩
      rw [Int.zero_add]
      walk_at "g"
      refine a_itB (b := unlA l d i) (fun c => ?_) (fun c => ?_)
      · walk_at "g"
        rw [fstB_hit hno c _ hi] at h
        exact h
      · walk_at "g"
        exact ⟨rfl, ⟨_, rfl⟩, fstB_no hno c⟩
    · rintro σ H' ⟨rfl, ⟨v, rfl⟩, hno⟩
      walk_at "g"
      rw [hno] at h
      exact h

/-! ### chain_tells -/
-- @NEEDS Trick_init need_tricks need_chain first_fail first_unlike word_of
def sp_chain_tells (Z : Adr) : Sp := fun vs H Q _ => ∃ (a : Addr) (l : List Tr) (xs : List V) (d : Int), vs = [.ref a, .int d] ∧ TricksAt Z H a l ∧ H a = some (.lst xs) ∧ (1 ≤ l.length ∧ l.length ≤ 4) ∧ (1 ≤ d ∧ d ≤ 30) ∧ wideA l ≤ 300 ∧ ∀ H', Same H H' → Q (.str (wordO (fstB (unlA l d) (d * wideA l).toNat) (fstB (flsA l d) (d * wideA l).toNat))) H'
theorem ok_chain_tells (T : Txt K mg Z) : FnOk P w K mg base CX0 4 Z.f_chain_tells Z.d_chain_tells p_chain_tells (sp_chain_tells Z) := by
  refine T.F_chain_tells.ok sc_chain_tells (fun vs H Q E h => ?_) (fun cdv A outer s H vs Q E hr h => ?_)
  · obtain ⟨_, _, _, _, rfl, _⟩ := h; rfl
  · obtain ⟨a, l, xs, d, rfl, ha, hxs, hl, hd, hw, h⟩ := h
    refine ⟨_, (pss_cons (ps_expr (pe_call (ok_need_chain T) (hr.mono (by decide)) rfl T.g_need_chain T.F_need_chain.kp T.b_need_chain .nil pass0 (pa_cons (pv 0) (pa_cons (pv 1) pa_nil))))
    (pss_one (ps_ret (pe_call (ok_word_of T) (hr.mono (by decide)) rfl T.g_word_of T.F_word_of.kp T.b_word_of .nil pass0 (pa_cons (pe_call (ok_first_unlike T) (hr.mono (by decide)) rfl T.g_first_unlike T.F_first_unlike.kp T.b_first_unlike .nil pass0 (pa_cons (pv 0) (pa_cons (pv 1) pa_nil))) (pa_cons (pe_call (ok_first_fail T) (hr.mono (by decide)) rfl T.g_first_fail T.F_first_fail.kp T.b_first_fail .nil pass0 (pa_cons (pv 0) (pa_cons (pv 1) pa_nil))) pa_nil)))))), ?_⟩
    walk_at "g"
    refine ⟨a, l, xs, d, rfl, ha, hxs, hl, hd, hw, fun H' s => ?_⟩
    walk_at "g"
    refine ⟨a, l, xs, d, rfl, ha.same s, s _ _ hxs, hd, hw, ?_⟩
    walk_at "g"
    refine ⟨a, l, xs, d, rfl, ha.same s, s _ _ hxs, hd, hw, ?_⟩
    walk_at "g"
    exact h _ s

/-! ### law_taken -/
/-- the row of draws as it stands -/
def RowOk (sc : Addr) (o : HO) : Prop := ∃ i s c : Int, o = .lst [.ref sc, .int i, .int s, .int c] ∧ 0 ≤ i ∧ 0 ≤ s ∧ s < 2147483647 ∧ 0 ≤ c
def sp_law_taken (K : Frag) : Sp := fun vs H Q _ => ∃ (row sc : Addr) (o : HO) (ns : List Int) (m : Int), vs = [.ref row, .int m] ∧ H row = some o ∧ RowOk sc o ∧ SqL K H sc (ns.map V.int) ∧ 0 < m ∧ m < 10 ^ 60 ∧
  ∀ (r : Int) (o' : HO) (H' : Hp), 0 ≤ r → r < m → RowOk sc o' → H' row = some o' → (∀ b v, b ≠ row → H b = some v → H' b = some v) → Q (.int r) H'
theorem row_ne {K : Frag} {H : Hp} {row sc : Addr} {o : HO} {ns : List Int} (h : H row = some o) (r : RowOk sc o) (hs : SqL K H sc (ns.map V.int)) : SqL K (del1 H row) sc (ns.map V.int) := by
  obtain ⟨i, s, c, rfl, _⟩ := r
  have d : ∀ ns : List Int, (ns.map V.int) ≠ [.ref sc, .int i, .int s, .int c] := fun ns e => by
    cases ns with
    | nil => cases e
    | cons a l => injection e with e1 _; cases e1
  rcases hs with (hs | ⟨q, hs⟩) | hs
  · have ne : sc ≠ row := fun z => by
      rw [z, h] at hs
      injection hs with e
      injection e with e
      exact d ns e.symm
    exact .inl (.inl (by rw [del1_ne ne]; exact hs))
  · have ne : sc ≠ row := fun z => by
      rw [z, h] at hs
      injection hs with e
      cases e
    exact .inl (.inr ⟨q, by rw [del1_ne ne]; exact hs⟩)
  · exact .inr hs
theorem use_law_taken {K : Frag} {B H : Hp} {Lw : List (Addr × HO)} {row sc : Addr} {o : HO} {ns : List Int} {m : Int} {Q : VK} {E : XK} (O : Own B Lw H) (i : Nat) (hi : Lw[i]? = some (row, o)) (ho : RowOk sc o) (hs : SqL K B sc (ns.map V.int)) (h1 : 0 < m ∧ m < 10 ^ 60)
    (h : ∀ (r : Int) (o' : HO) (H' : Hp), 0 ≤ r → r < m → RowOk sc o' → Own B (Lw.set i (row, o')) H' → Q (.int r) H') : sp_law_taken K ([.ref row, .int m] ++ []) H Q E :=
  ⟨row, sc, o, ns, m, rfl, O.get i hi, ho, O.seq hs, h1.1, h1.2, fun r o' H' hr0 hr1 ho' h1 h2 => h r o' H' hr0 hr1 ho' (O.but i hi h2 h1)⟩
theorem ok_law_taken (T : Txt K mg Z) : FnOk P w K mg base CX0 1 Z.f_law_taken Z.d_law_taken p_law_taken (sp_law_taken K) := by
  refine T.F_law_taken.ok sc_law_taken (fun vs H Q E h => ?_) (fun cdv A outer s H vs Q E hr h => ?_)
  · obtain ⟨_, _, _, _, _, rfl, _⟩ := h; rfl
  · obtain ⟨row, sc, o, ns, m, rfl, hrow, hok, hs, hm0, hm1, h⟩ := h
    have hs1 := row_ne hrow hok hs
    have O := Own.refl1 hrow
    obtain ⟨i, s0, c, rfl, hi0, hs0, hs2, hc0⟩ := hok
    refine ⟨_, (pss_cons (ps_if (pt_cmpR op_gt (pe_ix (r := rIxL K) ix_list (pv 0) pe_int (fun _ _ => rfl)) pe_int (nomark _)) (pss_cons (ps_set (i := 2) sc_law_taken.nd rfl (Or.inl rfl) (pe_op op_mod (pe_callTy call_int1 (by rfl) T.n_int boot_int (pa_cons (pe_ix (r := rIxL K) ix_list (pv 0) pe_int (fun _ _ => rfl)) pa_nil)) (pv 1)))
    (pss_cons (ps_asg (pe_op op_fdivW (pe_ix (r := rIxL K) ix_list (pv 0) pe_int (fun _ _ => rfl)) (pv 1)) (pg_sub (pv 0) pe_int set_list))
    (pss_one (ps_ret (pv 2))))) pss_nil)
    (pss_cons (ps_asg (pe_op op_add (pe_ix (r := rIxL K) ix_list (pv 0) pe_int (fun _ _ => rfl)) pe_int) (pg_sub (pv 0) pe_int set_list))
    (pss_cons (ps_if (pt_cmpR op_gt (pe_ix (r := rIxL K) ix_list (pv 0) pe_int (fun _ _ => rfl)) (pe_callB (r := rLen K) call_lenR (by rfl) T.n_len boot_len (pa_cons (pe_ix (r := rIxL K) ix_list (pv 0) pe_int (fun _ _ => rfl)) pa_nil)) (nomark _)) (pss_cons (ps_asg (pe_op op_mod (pe_callTy call_int1 (by rfl) T.n_int boot_int (pa_cons (pe_op op_add (pe_op op_mulX (pe_ix (r := rIxL K) ix_list (pv 0) pe_int (fun _ _ => rfl)) pe_int) pe_int) pa_nil)) pe_int) (pg_sub (pv 0) pe_int set_list))
    (pss_one (ps_ret (pe_op op_mod (pe_callTy call_int1 (by rfl) T.n_int boot_int (pa_cons (pe_op op_fdivW (pe_ix (r := rIxL K) ix_list (pv 0) pe_int (fun _ _ => rfl)) pe_int) pa_nil)) (pv 1))))) pss_nil)
    (pss_cons (ps_set (i := 3) sc_law_taken.nd rfl (Or.inl rfl) (pe_ix (r := rIxL K) ix_list (pe_ix (r := rIxL K) ix_list (pv 0) pe_int (fun _ _ => rfl)) (pe_op op_sub (pe_ix (r := rIxL K) ix_list (pv 0) pe_int (fun _ _ => rfl)) pe_int) (fun _ _ => rfl)))
    (pss_cons (ps_asg (pe_op op_mod (pe_callTy call_int1 (by rfl) T.n_int boot_int (pa_cons (pe_op op_add (pe_op op_add (pe_op op_mulX (pe_ix (r := rIxL K) ix_list (pv 0) pe_int (fun _ _ => rfl)) pe_int) (pv 3)) pe_int) pa_nil)) pe_int) (pg_sub (pv 0) pe_int set_list))
    (pss_cons (ps_if (pt_cmpR op_ge (pv 3) (pe_op op_pow pe_int pe_int) (nomark _)) (pss_one (ps_asg (pe_op op_fdivW (pv 3) (pv 1)) (pg_sub (pv 0) pe_int set_list))) pss_nil)
    (pss_one (ps_ret (pe_op op_mod (pe_callTy call_int1 (by rfl) T.n_int boot_int (pa_cons (pv 3) pa_nil)) (pv 1)))))))))), ?_⟩
    walk_at "g"
    refine a_it2 (fun c1 => ?_) (fun c1 => ?_)
    · walk_at "g"
      refine h _ _ _ (Int.emod_nonneg _ (by omega)) (Int.emod_lt_of_pos _ hm0) ?_ (Own.get (by assumption) 0 rfl) (Own.toBut (by assumption))
      exact ⟨_, _, _, rfl, hi0, hs0, hs2, Int.ediv_nonneg hc0 (by omega)⟩
    · walk_at "g"
      refine a_it2 (fun c2 => ?_) (fun c2 => ?_)
      · walk_at "g"
        refine h _ _ _ (Int.emod_nonneg _ (by omega)) (Int.emod_lt_of_pos _ hm0) ?_ (Own.get (by assumption) 0 rfl) (Own.toBut (by assumption))
        exact ⟨_, _, _, rfl, by omega, by omega, by omega, hc0⟩
      · rw [List.length_map] at c2
        have hlt : i.toNat < ns.length := by omega
        walk_at "g"
        refine a_ixL (v := .int (ns[i.toNat])) (Own.seq (by assumption) hs1) (at0 (j := i.toNat) (by omega) (by rw [List.getElem?_map, List.getElem?_eq_getElem hlt]; rfl)) ?_
        generalize ns[i.toNat] = cell
        walk_at "g"
        refine a_it2 (fun c3 => ?_) (fun c3 => ?_)
        · walk_at "g"
          refine h _ _ _ (Int.emod_nonneg _ (by omega)) (Int.emod_lt_of_pos _ hm0) ?_ (Own.get (by assumption) 0 rfl) (Own.toBut (by assumption))
          exact ⟨_, _, _, rfl, by omega, by omega, by omega, Int.ediv_nonneg (by omega) (by omega)⟩
        · walk_at "g"
          refine h _ _ _ (Int.emod_nonneg _ (by omega)) (Int.emod_lt_of_pos _ hm0) ?_ (Own.get (by assumption) 0 rfl) (Own.toBut (by assumption))
          exact ⟨_, _, _, rfl, by omega, by omega, by omega, hc0⟩

/-! ### law_behind -/
-- @NEEDS Trick_init law_trick
theorem lbeh_is {b k n : Int} (hb : 2 ≤ b ∧ b ≤ 16) (hk : 1 ≤ k ∧ k ≤ 2) : (n - n % b ^ k.toNat) / b ^ k.toNat = n / b ^ k.toNat := by
  have bs := block_small hb hk
  generalize b ^ k.toNat = m at *
  have e : n - n % m = m * (n / m) := by
    have q := Int.mul_ediv_add_emod n m
    omega
  rw [e]
  exact Int.mul_ediv_cancel_left _ (by omega)
theorem pow1 (b : Int) : b ^ (1 : Int).toNat = b := by rw [show (1 : Int).toNat = 1 from rfl, Int.pow_succ, Int.pow_zero, Int.one_mul]
theorem pow2 (b : Int) : b ^ (2 : Int).toNat = b * b := by rw [show (2 : Int).toNat = 2 from rfl, Int.pow_succ, Int.pow_succ, Int.pow_zero, Int.one_mul]
def sp_law_behind (K : Frag) : Sp := fun vs H Q _ => ∃ (a : Addr) (b k t n : Int), vs = [.ref a, .int n] ∧ SqL K H a [.int b, .int k, .int t] ∧ TrickOk b k t ∧ Q (.int (n / b ^ k.toNat + t * (n % b ^ k.toNat))) H
theorem ok_law_behind (T : Txt K mg Z) : FnOk P w K mg base CX0 1 Z.f_law_behind Z.d_law_behind p_law_behind (sp_law_behind K) := by
  refine T.F_law_behind.ok sc_law_behind (fun vs H Q E h => ?_) (fun cdv A outer s H vs Q E hr h => ?_)
  · obtain ⟨_, _, _, _, _, rfl, _⟩ := h; rfl
  · obtain ⟨a, b, k, t, n, rfl, ha, ⟨hb, hk, ht⟩, h⟩ := h
    refine ⟨_, (pss_cons (ps_asg (pv 0) (pg_lst rfl (pgs_cons (pg_name (i := 2) sc_law_behind.nd rfl (Or.inl rfl)) (pgs_cons (pg_name (i := 3) sc_law_behind.nd rfl (Or.inl rfl)) (pgs_cons (pg_name (i := 4) sc_law_behind.nd rfl (Or.inl rfl)) pgs_nil)))))
    (pss_cons (ps_set (i := 5) sc_law_behind.nd rfl (Or.inl rfl) (pe_ifExp (pt_cmpR op_eq (pv 3) pe_int (nomark _)) (pv 2) (pe_op op_mulX (pv 2) (pv 2))))
    (pss_cons (ps_set (i := 6) sc_law_behind.nd rfl (Or.inl rfl) (pe_op op_mod (pv 1) (pv 5)))
    (pss_one (ps_ret (pe_op op_add (pe_op op_fdivW (pe_op op_sub (pv 1) (pv 6)) (pv 5)) (pe_op op_mulX (pv 4) (pv 6)))))))), ?_⟩
    have bs := block_small hb hk
    have eb := lbeh_is (n := n) hb hk
    walk_at "h"
    refine a_it2 (fun c => ?_) (fun c => ?_)
    · have ek : k = 1 := by omega
      subst ek
      rw [pow1] at h bs eb
      walk_at "g"
      rw [eb]
      exact h
    · have ek : k = 2 := by omega
      subst ek
      rw [pow2] at h bs eb
      have e2 : 0 < b * b := by omega
      walk_at "g"
      rw [eb]
      exact h

/-! ### law_number -/
def sp_law_number (K : Frag) : Sp := fun vs H Q _ => ∃ (row sc : Addr) (o : HO) (ns : List Int), vs = [.ref row] ∧ H row = some o ∧ RowOk sc o ∧ SqL K H sc (ns.map V.int) ∧
  ∀ (n : Int) (o' : HO) (H' : Hp), -(10 ^ 40) ≤ n → n ≤ 10 ^ 40 → RowOk sc o' → H' row = some o' → (∀ b v, b ≠ row → H b = some v → H' b = some v) → Q (.int n) H'
theorem use_law_number {K : Frag} {B H : Hp} {Lw : List (Addr × HO)} {row sc : Addr} {o : HO} {ns : List Int} {Q : VK} {E : XK} (O : Own B Lw H) (i : Nat) (hi : Lw[i]? = some (row, o)) (ho : RowOk sc o) (hs : SqL K B sc (ns.map V.int))
    (h : ∀ (n : Int) (o' : HO) (H' : Hp), -(10 ^ 40) ≤ n → n ≤ 10 ^ 40 → RowOk sc o' → Own B (Lw.set i (row, o')) H' → Q (.int n) H') : sp_law_number K ([.ref row] ++ []) H Q E :=
  ⟨row, sc, o, ns, rfl, O.get i hi, ho, O.seq hs, fun n o' H' h1 h2 ho' g1 g2 => h n o' H' h1 h2 ho' (O.but i hi g2 g1)⟩
theorem ok_law_number (T : Txt K mg Z) : FnOk P w K mg base CX0 2 Z.f_law_number Z.d_law_number p_law_number (sp_law_number K) := by
  refine T.F_law_number.ok sc_law_number (fun vs H Q E h => ?_) (fun cdv A outer s H vs Q E hr h => ?_)
  · obtain ⟨_, _, _, _, rfl, _⟩ := h; rfl
  · obtain ⟨row, sc, o, ns, rfl, hrow, hok, hs, h⟩ := h
    have hs := row_ne hrow hok hs
    have O := Own.refl1 hrow
    refine ⟨_, (pss_cons (ps_set (i := 1) sc_law_number.nd rfl (Or.inl rfl) (pe_ix (r := rIxL K) ix_list (pe_lst (pa_cons pe_int (pa_cons pe_int (pa_cons (pe_op op_pow pe_int pe_int) (pa_cons (pe_op op_pow pe_int pe_int) pa_nil))))) (pe_call (ok_law_taken T) (hr.mono (by decide)) rfl T.g_law_taken T.F_law_taken.kp T.b_law_taken .nil pass0 (pa_cons (pv 0) (pa_cons pe_int pa_nil))) (fun _ _ => rfl)))
    (pss_cons (ps_set (i := 2) sc_law_number.nd rfl (Or.inl rfl) (pe_ifExp (pt_cmpR op_gt (pe_call (ok_law_taken T) (hr.mono (by decide)) rfl T.g_law_taken T.F_law_taken.kp T.b_law_taken .nil pass0 (pa_cons (pv 0) (pa_cons pe_int pa_nil))) pe_int (nomark _)) (pe_call (ok_law_taken T) (hr.mono (by decide)) rfl T.g_law_taken T.F_law_taken.kp T.b_law_taken .nil pass0 (pa_cons (pv 0) (pa_cons (pe_op op_add (pv 1) pe_int) pa_nil))) (pv 1)))
    (pss_one (ps_ret (pe_ifExp (pt_cmpR op_gt (pe_call (ok_law_taken T) (hr.mono (by decide)) rfl T.g_law_taken T.F_law_taken.kp T.b_law_taken .nil pass0 (pa_cons (pv 0) (pa_cons pe_int pa_nil))) pe_int (nomark _)) (pv 2) (pe_un un_neg (pv 2))))))), ?_⟩
    walk_at "g"; walk_at "mkL"; intro p H1 hp O
    walk_at "g"
    refine use_law_taken O 1 rfl hok hs (by omega) (fun z o H2 hz0 hz1 hok O => ?_)
    walk_at "g"
    refine a_ixM (ms := [9, 200, 10 ^ 6, 10 ^ 40]) O 0 rfl hz0 hz1 (fun sz hsz => ?_)
    have hsz : sz = 9 ∨ sz = 200 ∨ sz = 10 ^ 6 ∨ sz = 10 ^ 40 := by simpa using hsz
    have O := O.tail
    walk_at "g"
    refine use_law_taken O 0 rfl hok hs (by omega) (fun y o H3 hy0 hy1 hok O => ?_)
    walk_at "g"
    refine a_it2 (fun c => ?_) (fun c => ?_)
    · walk_at "g"
      refine use_law_taken O 0 rfl hok hs (by omega) (fun n o H4 hn0 hn1 hok O => ?_)
      walk_at "g"
      refine use_law_taken O 0 rfl hok hs (by omega) (fun y2 o H5 hy20 hy21 hok O => ?_)
      walk_at "g"
      refine a_it2 (fun c => ?_) (fun c => ?_)
      · walk_at "g"
        exact h _ _ _ (by omega) (by omega) hok (Own.get O 0 rfl) (Own.toBut O)
      · walk_at "g"
        exact h _ _ _ (by omega) (by omega) hok (Own.get O 0 rfl) (Own.toBut O)
    · walk_at "g"
      refine use_law_taken O 0 rfl hok hs (by omega) (fun y2 o H5 hy20 hy21 hok O => ?_)
      walk_at "g"
      refine a_it2 (fun c => ?_) (fun c => ?_)
      · walk_at "g"
        exact h _ _ _ (by omega) (by omega) hok (Own.get O 0 rfl) (Own.toBut O)
      · walk_at "g"
        exact h _ _ _ (by omega) (by omega) hok (Own.get O 0 rfl) (Own.toBut O)

/-! ### law_tricks -/
-- @NEEDS Trick_init need_tricks
/-- the drawn parts of tricks in a list -/
def toldT (x : Tr) : HO := .lst [.int x.1, .int x.2.1, .int x.2.2]
def ToldAt (H : Hp) (a : Addr) (l : List Tr) : Prop := ∃ xs : List V, H a = some (.lst xs) ∧ xs.length = l.length ∧ (∀ x ∈ l, TrOk x) ∧ ∀ (i : Nat) (x : V), xs[i]? = some x → ∃ (q : Addr) (y : Tr), l[i]? = some y ∧ x = .ref q ∧ H q = some (toldT y)
theorem ToldAt.same {B H : Hp} {a : Addr} {l : List Tr} (s : Same B H) (h : ToldAt B a l) : ToldAt H a l := by
  obtain ⟨xs, h1, h2, h3, h4⟩ := h
  refine ⟨xs, s _ _ h1, h2, h3, fun i x hi => ?_⟩
  obtain ⟨q, y, e1, e2, e3⟩ := h4 i x hi
  exact ⟨q, y, e1, e2, s _ _ e3⟩
def sp_law_tricks (Z : Adr) : Sp := fun vs H Q _ => ∃ (a : Addr) (l : List Tr), vs = [.ref a] ∧ ToldAt H a l ∧ l.length ≤ 4 ∧
  ∀ (p : Addr) (xs : List V) (H' : Hp), Same H H' → H p = none → H' p = some (.lst xs) → TricksAt Z H' p l → Q (.ref p) H'
theorem snoc_at {α : Type} {xs : List α} {v x : α} {i : Nat} (h : (xs ++ [v])[i]? = some x) : (i < xs.length ∧ xs[i]? = some x) ∨ (i = xs.length ∧ x = v) := by
  by_cases c : i < xs.length
  · rw [List.getElem?_append_left c] at h
    exact .inl ⟨c, h⟩
  · rw [List.getElem?_append_right (by omega)] at h
    have z : i - xs.length = 0 := by
      by_cases z : i - xs.length = 0
      · exact z
      · rw [List.getElem?_eq_none (by rw [List.length_singleton]; omega)] at h
        cases h
    rw [z] at h
    exact .inr ⟨by omega, (Option.some.inj h).symm⟩
def ToldL (B : Hp) (xs : List V) (l : List Tr) : Prop := xs.length = l.length ∧ ∀ (i : Nat) (x : V), xs[i]? = some x → ∃ (q : Addr) (y : Tr), l[i]? = some y ∧ x = .ref q ∧ B q = some (toldT y)
theorem ToldL.same {B B' : Hp} {xs : List V} {l : List Tr} (s : Same B B') (h : ToldL B xs l) : ToldL B' xs l := ⟨h.1, fun i x hi => by
  obtain ⟨q, y, e1, e2, e3⟩ := h.2 i x hi
  exact ⟨q, y, e1, e2, s _ _ e3⟩⟩
theorem ToldL.snoc {B : Hp} {xs : List V} {l : List Tr} {q : Addr} {y : Tr} (h : ToldL B xs l) (hq : B q = some (toldT y)) : ToldL B (xs ++ [.ref q]) (l ++ [y]) := by
  refine ⟨by rw [List.length_append, List.length_append, h.1]; rfl, fun i x hi => ?_⟩
  rcases snoc_at hi with ⟨c, hi⟩ | ⟨rfl, rfl⟩
  · obtain ⟨q', y', f1, f2, f3⟩ := h.2 i x hi
    exact ⟨q', y', by rw [List.getElem?_append_left (by rw [← h.1]; exact c)]; exact f1, f2, f3⟩
  · exact ⟨q, y, by rw [h.1, List.getElem?_append_right (Nat.le_refl _), Nat.sub_self]; rfl, rfl, hq⟩
theorem told_at {B : Hp} {xs : List V} {l : List Tr} (h : ToldL B xs l) {i : Nat} {x : V} (hi : xs[i]? = some x) : ∃ (hl : i < l.length) (q : Addr), x = .ref q ∧ B q = some (toldT l[i]) := by
  obtain ⟨q, y, e1, e2, e3⟩ := h.2 i x hi
  obtain ⟨hl, e⟩ := List.getElem?_eq_some_iff.mp e1
  exact ⟨hl, q, e2, by rw [e]; exact e3⟩
theorem ok_law_tricks (T : Txt K mg Z) : FnOk P w K mg base CX0 5 Z.f_law_tricks Z.d_law_tricks p_law_tricks (sp_law_tricks Z) := by
  refine T.F_law_tricks.ok sc_law_tricks (fun vs H Q E h => ?_) (fun cdv A outer s H vs Q E hr h => ?_)
  · obtain ⟨_, _, rfl, _⟩ := h; rfl
  · obtain ⟨a, l, rfl, ⟨xs, hxs, hl, hok, hx⟩, hl4, h⟩ := h
    have O := Own.refl H
    refine ⟨_, (pss_one (ps_ret (pe_lc (own := [("_law_base", 1), ("_law_take", 2), ("_law_times", 3)]) (tt := tYes) rfl sc_law_tricks.nd (pi_list (pv 0)) (blkOk_by (N := N_law_tricks) (sc := defScope s_law_tricks) (by decide +kernel)) (fun _ _ _ _ _ => (pg_lstK (K := K) (n := 3) rfl (pgs_cons (pg_name (i := 1) sc_law_tricks.nd rfl (Or.inl rfl)) (pgs_cons (pg_name (i := 2) sc_law_tricks.nd rfl (Or.inl rfl)) (pgs_cons (pg_name (i := 3) sc_law_tricks.nd rfl (Or.inl rfl)) pgs_nil))))) (fun _ _ _ _ _ => pts_nil) (fun _ _ _ _ _ => (pe_make T.M_Trick (ok_Trick_init T) (hr.mono (by decide)) rfl T.g_Trick T.b_Trick_init .nil pass0 (pa_cons (pv 1) (pa_cons (pv 2) (pa_cons (pv 3) pa_nil)))))))), ?_⟩
    walk_at "g"
    refine ⟨a, rfl, ⟨xs, SqL.of hxs⟩, fun D hD => ?_⟩
    replace O := Own.new (o := .lst []) O hD
    refine lc_list (xs := xs) (fun i H' => ∃ (B : Hp) (ys : List V), Own B [(D, .lst ys)] H' ∧ Same H B ∧ ys.length = i ∧ ∀ (j : Nat) (x : V), ys[j]? = some x → ∃ (q : Addr) (y : Tr), l[j]? = some y ∧ x = .ref q ∧ TrickAt Z B q y.1 y.2.1 y.2.2) ⟨H, [], O, Same.refl H, rfl, fun j x e => by simp at e⟩ (fun i H' _ ⟨B, ys, O, sB, _⟩ => SqL.of (O.st _ _ (sB _ _ hxs))) ?_ ?_
    · clear O
      rintro i x H' hi ⟨B, ys, O, sB, hyl, hy⟩
      obtain ⟨q, y, e1, rfl, hq⟩ := hx i x hi
      obtain ⟨il, ey⟩ := List.getElem?_eq_some_iff.mp e1
      have yok := hok y (by rw [← ey]; exact List.getElem_mem il)
      refine a_glst (SqL.of (O.st _ _ (sB _ _ hq))) rfl ?_
      walk_at "g"
      refine ⟨rfl, ?_⟩
      walk_at "g"
      refine use_Trick O yok (fun t B' H' ht sB' O ha => ?_)
      have ys2 : ys.length < sizeLine := Nat.lt_of_lt_of_le (show ys.length < 1000 by omega) (by decide)
      refine ⟨_, O.get 0 rfl, ys2, ?_⟩
      replace O := Own.put (u := .lst (ys ++ [.ref t])) O 0 rfl
      refine ⟨B', _, O, sB.trans sB', by rw [List.length_append, List.length_singleton, hyl], fun j x hj => ?_⟩
      rcases snoc_at hj with ⟨_, hj⟩ | ⟨rfl, rfl⟩
      · obtain ⟨q', y', f1, f2, f3⟩ := hy j x hj
        exact ⟨q', y', f1, f2, f3.same sB'⟩
      · exact ⟨t, y, by rw [hyl]; exact e1, rfl, ha⟩
    · clear O
      rintro H' ⟨B, ys, O, sB, hyl, hy⟩
      refine h D ys H' (sB.trans O.toSame) hD (O.get 0 rfl) ⟨ys, .inl (O.get 0 rfl), by omega, hok, fun j x hj => ?_⟩
      obtain ⟨q', y', f1, f2, f3⟩ := hy j x hj
      exact ⟨q', y', f1, f2, f3.same O.toSame⟩

/-! ### law -/
-- @NEEDS law_tricks factor chain_tells law_number law_behind law_taken
def sp_law (K : Frag) : Sp := fun vs H Q _ => ∃ (a : Addr) (ns : List Int), vs = [.ref a] ∧ SqL K H a (ns.map V.int) ∧ ns.length ≤ 63 ∧ ∀ H', Q (.bl true) H'
theorem a_pick {σ : L2.St} {H : Hp} {c : Prop} [Decidable c] {s1 s2 : Str} {Q : VK} (h : Q (.str (if c then s1 else s2)) H) : if decide c = true then tC (.str s1) σ H Q else tC (.str s2) σ H Q := by
  by_cases z : c
  · rw [if_pos z] at h
    exact a_itT z h
  · rw [if_neg z] at h
    exact a_itF z h
theorem dvd_lin {e a b c : Int} (h1 : e ∣ a) (h2 : e ∣ b) (h : c = a + b) : e ∣ c := by rw [h]; exact Int.dvd_add h1 h2
structure Good (e : Int) (l : List Tr) (pr : Int) : Prop where
  ok : ∀ x ∈ l, TrOk x
  wide : wideA l ≤ 5 ^ l.length
  rest : ∀ n, e ∣ behA l n - pr * n
  tell : ∀ n, (e ∣ n ↔ e ∣ behA l n)
  pb : 0 ≤ pr ∧ pr ≤ 30
  red : l ≠ [] → pr < e
theorem Good.nil (e : Int) : Good e [] 1 := ⟨fun x h => absurd h List.not_mem_nil, Int.le_refl 1, fun n => by
  have z : behA [] n - 1 * n = 0 := by show n - 1 * n = 0; omega
  rw [z]; exact Int.dvd_zero e, fun n => Iff.rfl, by decide, fun h => absurd rfl h⟩
theorem Good.snoc {e pr : Int} {l : List Tr} (g : Good e l pr) {x : Tr} (he : 1 ≤ e ∧ e ≤ 30) (hx : TrOk x) (h5 : blk x ≤ 5) (hg : e ∣ x.2.2 * blk x - 1) : Good e (l ++ [x]) (pr * (x.2.2 % e) % e) := by
  have p0 := Int.emod_nonneg (pr * (x.2.2 % e)) (show e ≠ 0 by omega)
  have p1 := Int.emod_lt_of_pos (pr * (x.2.2 % e)) (show 0 < e by omega)
  refine ⟨fun y hy => ?_, ?_, fun n => ?_, fun n => ?_, by omega, fun _ => p1⟩
  · rcases List.mem_append.mp hy with z | z
    · exact g.ok y z
    · rw [List.mem_singleton] at z
      rw [z]; exact hx
  · rw [wideA_snoc, List.length_append, List.length_singleton, Int.pow_succ]
    have b0 := blk_pos hx
    have w0 := wideA_pos g.ok
    exact Int.mul_le_mul g.wide h5 (by omega) (by have := g.wide; omega)
  · rw [behA_snoc]
    have q1 : e ∣ behT x (behA l n) - x.2.2 * behA l n := beh_mul hg _
    have q2 := g.rest n
    have q3 : e ∣ pr * (x.2.2 % e) % e - pr * x.2.2 := dvd_same (by rw [Int.emod_emod, Int.mul_emod, Int.emod_emod, ← Int.mul_emod])
    generalize behA l n = m at *
    generalize behT x m = u at *
    generalize pr * (x.2.2 % e) % e = p' at *
    generalize x.2.2 = t at *
    have r2 : e ∣ t * (m - pr * n) := Int.dvd_trans q2 (Int.dvd_mul_left _ _)
    have r3 : e ∣ (p' - pr * t) * -n := Int.dvd_trans q3 (Int.dvd_mul_right _ _)
    refine dvd_lin (dvd_lin q1 r2 rfl) r3 ?_
    have e1 : t * (m - pr * n) = t * m - pr * t * n := by rw [Int.mul_sub, ← Int.mul_assoc, Int.mul_comm t pr]
    have e2 : (p' - pr * t) * -n = pr * t * n - p' * n := by rw [Int.mul_neg, Int.sub_mul]; omega
    omega
  · rw [behA_snoc]
    exact (g.tell n).trans (fls_false.mp (good_fls hg (behA l n)))
theorem Good.word {e pr : Int} {l : List Tr} (g : Good e l pr) (he : 1 ≤ e) (hl : l ≠ []) (N : Nat) (hN : fstB (unlA l e) N = none → ∀ n, unlA l e n = false) : wordO (fstB (unlA l e) N) (fstB (flsA l e) N) = (if pr = 1 % e then ("rest" : Str) else ("multiples" : Str)) := by
  have hf : fstB (flsA l e) N = none := fstB_all fun n => by
    have q := g.tell n
    rw [← zero_dvd', ← zero_dvd'] at q
    unfold flsA
    by_cases h1 : n % e = 0 <;> by_cases h2 : behA l n % e = 0 <;> simp [h1, h2] at q ⊢
  have p0 : pr % e = pr := Int.emod_eq_of_lt g.pb.1 (g.red hl)
  unfold wordO
  by_cases c : pr = 1 % e
  · have d1 : e ∣ pr - 1 := dvd_same (by rw [p0]; exact c)
    have hu : fstB (unlA l e) N = none := fstB_all fun n => by
      have q := g.rest n
      have z : n % e = behA l n % e := same_dvd (dvd_lin (Int.dvd_neg.mpr q) (Int.dvd_neg.mpr (Int.dvd_trans d1 (Int.dvd_mul_right _ n))) (by rw [Int.sub_mul, Int.one_mul]; omega))
      unfold unlA
      rw [decide_eq_true z]; rfl
    rw [if_pos hu, if_pos c]
  · rw [if_neg (fun z => c ?_), if_pos hf, if_neg c]
    have q := hN z 1
    have r := g.rest 1
    rw [Int.mul_one] at r
    have r2 := same_dvd r
    unfold unlA at q
    have q2 : 1 % e = behA l 1 % e := by simpa using q
    rw [← p0, ← r2, q2]
def pyTr (y : Tr) : PyData := pyL [y.1, y.2.1, y.2.2]
theorem can_pyTr : ∀ l : List Tr, PyData.canLayAll0 (l.map pyTr) = true := canAll_map fun y => can_pyL _
theorem dep_pyTr (l : List Tr) : (PyData.list (l.map pyTr)).depth ≤ 64 := by
  have := depthAll_map (f := pyTr) (fun y => dep_pyL _) l
  show PyData.depthAll (l.map pyTr) + 1 ≤ 64
  omega
theorem ok_law (T : Txt K mg Z) : FnOk P w K mg base CX0 6 Z.f_law Z.d_law p_law (sp_law K) := by
  refine T.F_law.ok sc_law (fun vs H Q E h => ?_) (fun cdv A outer s H vs Q E hr h => ?_)
  · obtain ⟨_, _, rfl, _⟩ := h; rfl
  · obtain ⟨a, ns, rfl, hS, hlen, h⟩ := h
    have O := Own.refl H
    refine ⟨_, (pss_cons (ps_set (i := 1) sc_law.nd rfl (Or.inl rfl) (pe_lst (pa_cons (pv 0) (pa_cons pe_int (pa_cons pe_int (pa_cons pe_int pa_nil))))))
    (pss_cons (ps_asg (pe_tup (pa_cons (pe_op op_add pe_int (pe_call (ok_law_taken T) (hr.mono (by decide)) rfl T.g_law_taken T.F_law_taken.kp T.b_law_taken .nil pass0 (pa_cons (pv 1) (pa_cons pe_int pa_nil)))) (pa_cons (pe_lst pa_nil) (pa_cons pe_int pa_nil)))) (pg_tup rfl (pgs_cons (pg_name (i := 2) sc_law.nd rfl (Or.inr rfl)) (pgs_cons (pg_name (i := 3) sc_law.nd rfl (Or.inl rfl)) (pgs_cons (pg_name (i := 4) sc_law.nd rfl (Or.inl rfl)) pgs_nil)))))
    (pss_cons (ps_for PassesOwn.never rfl (pi_range1 rfl T.n_range (pa_cons (pe_op op_add pe_int (pe_call (ok_law_taken T) (hr.mono (by decide)) rfl T.g_law_taken T.F_law_taken.kp T.b_law_taken .nil pass0 (pa_cons (pv 1) (pa_cons pe_int pa_nil)))) pa_nil)) (pg_name (i := 5) sc_law.nd rfl (Or.inl rfl))
    (pss_cons (ps_set (i := 6) sc_law.nd rfl (Or.inr rfl) (pe_op op_add pe_int (pe_call (ok_law_taken T) (hr.mono (by decide)) rfl T.g_law_taken T.F_law_taken.kp T.b_law_taken .nil pass0 (pa_cons (pv 1) (pa_cons pe_int pa_nil)))))
    (pss_cons (ps_setLc (i := 7) rfl sc_law.nd rfl rfl (sw_true rfl rfl rfl (by decide +kernel)) (own := [("_law_times", 13)]) (pi_range1 rfl T.n_range (pa_cons (pv 2) pa_nil)) (blkOk_by (N := N_law) (sc := defScope s_law) (by decide +kernel)) (fun _ _ _ _ _ => (pg_name (i := 13) sc_law.nd rfl (Or.inl rfl))) (fun _ _ _ _ _ => (pts_one (pt_cmpR op_eq (pe_op op_mod (pe_op op_mulX (pv 13) (pv 6)) (pv 2)) (pe_op op_mod pe_int (pv 2)) (nomark _)))) (fun _ _ _ _ _ => (pv 13)))
    (pss_one (ps_if (PW.pt (pw_and (pt_cmpR (r := rNeD K) (op_neD hr.units) (pv 7) (pe_lst pa_nil) (nomark _)) (pw_and1 (pt_cmpR op_lt (pe_callB (r := rLen K) call_lenR (by rfl) T.n_len boot_len (pa_cons (pv 3) pa_nil)) pe_int (nomark _))))) (pss_cons (ps_expr (pe_bm PySem.F.plainAttrs_list PySem.F.slot_list_append PySem.F.type_list_append mt_append (pv 3) (pa_cons (pe_lst (pa_cons (pv 6) (pa_cons pe_int (pa_cons (pe_op op_sub (pe_ix (r := rIxL K) ix_list (pv 7) pe_int (fun _ _ => rfl)) (pe_op op_mulX (pv 2) (pe_call (ok_law_taken T) (hr.mono (by decide)) rfl T.g_law_taken T.F_law_taken.kp T.b_law_taken .nil pass0 (pa_cons (pv 1) (pa_cons pe_int pa_nil))))) pa_nil)))) pa_nil)))
    (pss_one (ps_set (i := 4) sc_law.nd rfl (Or.inl rfl) (pe_op op_mod (pe_op op_mulX (pv 4) (pe_call (ok_factor T) (hr.mono (by decide)) rfl T.g_factor T.F_factor.kp T.b_factor .nil pass0 (pa_cons (pe_make T.M_Trick (ok_Trick_init T) (hr.mono (by decide)) rfl T.g_Trick T.b_Trick_init .nil pass0 (pa_cons (pv 6) (pa_cons pe_int (pa_cons (pe_ix (r := rIxL K) ix_list (pe_ix (r := rIxL K) ix_list (pv 3) (pe_un un_neg pe_int) (fun _ _ => rfl)) pe_int (fun _ _ => rfl)) pa_nil)))) (pa_cons (pv 2) pa_nil)))) (pv 2))))) pss_nil)))))
    (pss_cons (ps_if (pt_cmpR (r := rEqD K) (op_eqD hr.units) (pv 3) (pe_lst pa_nil) (nomark _)) (pss_one (ps_ret pe_bl)) pss_nil)
    (pss_cons (ps_set (i := 8) sc_law.nd rfl (Or.inl rfl) (pe_ifExp (pt_cmpR op_eq (pv 4) (pe_op op_mod pe_int (pv 2)) (nomark _)) pe_str pe_str))
    (pss_cons (ps_if (pt_cmpR op_ne (pe_call (ok_chain_tells T) (hr.mono (by decide)) rfl T.g_chain_tells T.F_chain_tells.kp T.b_chain_tells .nil pass0 (pa_cons (pe_call (ok_law_tricks T) (hr.mono (by decide)) rfl T.g_law_tricks T.F_law_tricks.kp T.b_law_tricks .nil pass0 (pa_cons (pv 3) pa_nil)) (pa_cons (pv 2) pa_nil))) (pv 8) (nomark _)) (pss_one (ps_ret pe_bl)) pss_nil)
    (pss_cons (ps_for PassesOwn.never rfl (pi_range1 rfl T.n_range (pa_cons pe_int pa_nil)) (pg_name (i := 9) sc_law.nd rfl (Or.inl rfl))
    (pss_cons (ps_set (i := 10) sc_law.nd rfl (Or.inl rfl) (pe_call (ok_law_number T) (hr.mono (by decide)) rfl T.g_law_number T.F_law_number.kp T.b_law_number .nil pass0 (pa_cons (pv 1) pa_nil)))
    (pss_cons (ps_set (i := 11) sc_law.nd rfl (Or.inl rfl) (pv 10))
    (pss_cons (ps_for PassesOwn.never rfl (pi_list (pv 3)) (pg_name (i := 12) sc_law.nd rfl (Or.inl rfl))
    (pss_one (ps_set (i := 11) sc_law.nd rfl (Or.inl rfl) (pe_call (ok_law_behind T) (hr.mono (by decide)) rfl T.g_law_behind T.F_law_behind.kp T.b_law_behind .nil pass0 (pa_cons (pv 12) (pa_cons (pv 11) pa_nil))))))
    (pss_one (ps_if (pt_cmpR op_ne (pe_op op_mod (pv 11) (pv 2)) (pe_op op_mod (pe_op op_mulX (pv 4) (pv 10)) (pv 2)) (nomark _)) (pss_one (ps_ret pe_bl)) pss_nil))))))
    (pss_one (ps_ret pe_bl))))))))), ?_⟩
    walk_at "g"; walk_at "mkL"; intro row H1 hrow O
    have ok : RowOk a (.lst [.ref a, .int 0, .int 132, .int 0]) := ⟨0, 132, 0, rfl, by decide, by decide, by decide, by decide⟩
    walk_at "g"
    refine use_law_taken O 0 rfl ok hS (by omega) (fun d o H3 hd0 hd1 ok O => ?_)
    walk_at "g"; walk_at "mkL"; intro p H4 hp O
    walk_at "g"; walk_at "mkT"; intro q H5 hq O
    walk_at "g"
    replace O := O.tail
    generalize ed : 1 + d = e at *
    refine use_law_taken O 1 rfl ok hS (by omega) (fun m o H3 hm0 hm1 ok O => ?_)
    walk_at "g"
    refine for_range (fun i σ H' => ∃ (v5 v6 v7 : Option V) (l : List Tr) (pr : Int) (xs : List V) (o : HO) (B : Hp), σ = [some (.ref a), some (.ref row), some (.int e), some (.ref p), some (.int pr), v5, v6, v7, none, none, none, none, none, none] ∧ Good e l pr ∧ l.length ≤ 3 ∧ Same H B ∧ ToldL B xs l ∧ DpAll K B xs (l.map pyTr) ∧ RowOk a o ∧ Own B [(p, .lst xs), (row, o)] H')
      ⟨none, none, none, [], 1, [], o, H, rfl, Good.nil e, Nat.zero_le _, Same.refl H, ⟨rfl, fun i x h => by simp at h⟩, .nil, ok, O⟩ ?_ ?_
    · clear O ok
      rintro i σ H' hi ⟨v5, v6, v7, l, pr, xs, o, B, rfl, gd, hl3, sB, tl, dp, ok, O⟩
      walk_at "g"
      refine use_law_taken O 1 rfl ok (sB.seq hS) (by omega) (fun b o H2 hb0 hb1 ok O => ?_)
      walk_at "g"
      generalize eb : 2 + b = bb at *
      intro D hD
      replace O := Own.new (o := .lst []) O hD
      refine lc_range (fun i H' => ∃ gs : List Int, (∀ x ∈ gs, 0 ≤ x ∧ x < e ∧ x * bb % e = 1 % e) ∧ gs.length ≤ i ∧ Own B [(D, .lst (gs.map V.int)), (p, .lst xs), (row, o)] H') ⟨[], fun _ h => by simp at h, Nat.le_refl 0, O⟩ ?_ ?_
      · clear O
        rintro i H' hi ⟨gs, hg, hgl, O⟩
        walk_at "g"
        refine ⟨rfl, ?_⟩
        walk_at "g"
        rw [Int.zero_add]
        refine a_it2 (fun c => ?_) (fun c => ?_)
        · walk_at "g"
          refine ⟨_, Own.get O 0 rfl, ?_, ?_⟩
          · rw [List.length_map]
            exact Nat.lt_of_lt_of_le (show gs.length < 1000 by omega) (by decide)
          · replace O := Own.put (u := .lst (gs.map V.int ++ [.int (i : Int)])) O 0 rfl
            refine ⟨gs ++ [(i : Int)], fun y hy => ?_, by rw [List.length_append, List.length_singleton]; omega, ?_⟩
            · rcases List.mem_append.mp hy with z | z
              · exact hg y z
              · have z : y = (i : Int) := by simpa using z
                rw [z]
                exact ⟨by omega, by omega, c⟩
            · rw [List.map_append]
              exact O
        · exact ⟨gs, hg, by omega, O⟩
      clear O
      rintro H' ⟨gs, hg, hgl, O⟩
      walk_at "g"; walk_at "mkL"; intro z Hz hz O
      walk_at "g"
      cases gs with
      | nil =>
        refine a_neL (ns := []) (Own.sq O 1 rfl) (Own.sq O 0 rfl) ?_
        walk_at "g"
        exact ⟨_, _, _, l, pr, xs, o, B, rfl, gd, hl3, sB, tl, dp, ok, O.tail.tail⟩
      | cons g gs =>
        refine a_neD' (d := pyL (g :: gs)) (e := pyL []) (dp_pyL (Own.sq O 1 rfl)) (dp_pyL (ns := []) (Own.sq O 0 rfl)) (can_pyL _) (Nat.le_trans (dep_pyL _) (by decide)) (can_pyL _) (Nat.le_trans (dep_pyL _) (by decide)) rfl ?_
        have hg0 := hg g List.mem_cons_self
        replace O := O.tail
        have hxl : xs.length = l.length := tl.1
        walk_at "g"
        refine a_it2 (fun c => ?_) (fun c => ?_)
        · walk_at "g"
          refine ⟨.inl ⟨rfl, _, Own.sq O 1 rfl⟩, ?_⟩
          walk_at "g"
          refine a_ixI (ms := g :: gs) O 0 rfl (Int.le_refl 0) (Nat.zero_lt_succ _) ?_
          walk_at "g"
          refine use_law_taken O 2 rfl ok (sB.seq hS) (by omega) (fun c0 o H2 hc0 hc1 ok O => ?_)
          generalize hge : (g :: gs)[Int.toNat 0] = g0
          have hge : g = g0 := hge
          subst hge
          obtain ⟨y, hy⟩ : ∃ y : Tr, y = (bb, 1, g - e * c0) := ⟨_, rfl⟩
          have hc : e * c0 = 0 ∨ e * c0 = e := by
            rcases (show c0 = 0 ∨ c0 = 1 by omega) with z | z
            · exact .inl (by rw [z, Int.mul_zero])
            · exact .inr (by rw [z, Int.mul_one])
          have yok : TrickOk bb 1 (g - e * c0) := ⟨by omega, by omega, by omega⟩
          have yb : blk y = bb := by
            rw [hy]
            show bb ^ (1 : Int).toNat = bb
            rw [show (1 : Int).toNat = 1 from rfl, Int.pow_succ, Int.pow_zero, Int.one_mul]
          have yg : e ∣ (g - e * c0) * bb - 1 := by
            have d1 := dvd_same hg0.2.2
            have d2 : e ∣ e * -(c0 * bb) := Int.dvd_mul_right _ _
            refine dvd_lin d1 d2 ?_
            rw [Int.sub_mul, Int.mul_neg, Int.mul_assoc]; omega
          have hbp : bb ^ (1 : Int).toNat = bb := by rw [show (1 : Int).toNat = 1 from rfl, Int.pow_succ, Int.pow_zero, Int.one_mul]
          have eo : optV (facO bb 1 (g - e * c0) e) = .int ((g - e * c0) % e) := by
            unfold facO
            rw [hbp, if_pos (same_dvd yg)]; rfl
          have g2 : Good e (l ++ [y]) (pr * ((g - e * c0) % e) % e) := by
            have := gd.snoc (x := y) (by omega) (by rw [hy]; exact yok) (by rw [yb]; omega) (by rw [yb, hy]; exact yg)
            rw [hy] at this ⊢
            exact this
          have t0 := Int.emod_nonneg (g - e * c0) (show e ≠ 0 by omega)
          have t1 := Int.emod_lt_of_pos (g - e * c0) (show 0 < e by omega)
          have pb := gd.pb
          walk_at "g"; walk_at "mkL"; intro w Hw hw O
          walk_at "g"
          refine a_app O 2 rfl (by omega) (fun H3 O => ?_)
          have O : Own B [(w, .lst [.int bb, .int 1, .int (g - e * c0)]), (D, .lst ((g :: gs).map V.int)), (p, .lst (xs ++ [V.ref w])), (row, o)] H3 := O
          walk_at "g"
          refine a_ixL (Own.sq O 2 rfl) (atI_last _ _) ?_
          walk_at "g"
          refine use_Trick O yok (fun x B' H' hx sB' O ha => ?_)
          walk_at "g"
          rw [eo]
          walk_at "g"
          have s2 := Same.trans sB' (Own.fixS O)
          have O2 := Own.tail (Own.fix O)
          have hw2 : (upd B' w (.lst [.int bb, .int 1, .int (g - e * c0)])) w = some (toldT y) := by rw [hy]; exact upd_same
          generalize upd B' w (.lst [.int bb, .int 1, .int (g - e * c0)]) = B2 at *
          refine ⟨_, _, _, l ++ [y], _, xs ++ [V.ref w], o, B2, rfl, g2, by rw [List.length_append, List.length_singleton]; omega, Same.trans sB s2, ToldL.snoc (tl.same s2) hw2, ?_, ok, O2⟩
          rw [List.map_append]
          exact dpAll_snoc (dp_pyL (ns := [y.1, y.2.1, y.2.2]) (SqL.of hw2)) (dpAll_same s2 _ _ dp)
        · walk_at "g"
          exact ⟨_, _, _, l, pr, xs, o, B, rfl, gd, hl3, sB, tl, dp, ok, O.tail⟩
    · clear O ok
      rintro σ H' ⟨v5, v6, v7, l, pr, xs, o, B, rfl, gd, hl3, sB, tl, dp, ok, O⟩
      walk_at "g"; walk_at "mkL"; intro z Hz hz O
      walk_at "g"
      cases l with
      | nil =>
        have e0 : xs = [] := List.eq_nil_of_length_eq_zero tl.1
        subst e0
        refine a_eqL (ns := []) (Own.sq O 1 rfl) (Own.sq O 0 rfl) ?_
        walk_at "g"
        exact h _
      | cons y l =>
        refine a_eqD' (d := .list ((y :: l).map pyTr)) (e := pyL []) (.lst (Own.sq O 1 rfl) (dpAll_same O.st _ _ dp)) (dp_pyL (ns := []) (Own.sq O 0 rfl)) (can_pyTr _) (dep_pyTr _) (can_pyL _) (Nat.le_trans (dep_pyL _) (by decide)) rfl ?_
        replace O := O.tail
        have hne : y :: l ≠ [] := fun z => by cases z
        have hl1 : 1 ≤ (y :: l).length := Nat.succ_pos _
        generalize y :: l = l at *
        have hw : wideA l ≤ 300 := by
          have q := gd.wide
          have r : l.length = 1 ∨ l.length = 2 ∨ l.length = 3 := by omega
          rcases r with r | r | r
          · rw [r] at q; exact Int.le_trans q (by decide)
          · rw [r] at q; exact Int.le_trans q (by decide)
          · rw [r] at q; exact Int.le_trans q (by decide)
        have hwd := gd.word (by omega) hne (e * wideA l).toNat (unlA_all gd.ok (by omega))
        walk_at "g"
        refine a_pick ?_
        rw [← hwd]
        walk_at "g"
        refine ⟨p, l, rfl, ⟨xs, O.get 0 rfl, tl.1, gd.ok, fun i x hi => ?_⟩, by omega, fun p2 ys H4 s hp2 hp2' ta => ?_⟩
        · obtain ⟨q, y, e1, e2, e3⟩ := tl.2 i x hi
          exact ⟨q, y, e1, e2, O.st _ _ e3⟩
        replace O := O.same s
        walk_at "g"
        refine ⟨p2, l, ys, e, rfl, ta, hp2', ⟨hl1, by omega⟩, by omega, hw, fun H6 s6 => ?_⟩
        replace O := O.same s6
        walk_at "g"
        have pb := gd.pb
        refine for_range (fun i σ H' => (∃ v5 v6 v7 v8 v9 v10 v11 v12, σ = [some (.ref a), some (.ref row), some (.int e), some (.ref p), some (.int pr), v5, v6, v7, v8, v9, v10, v11, v12, none]) ∧ ∃ o, RowOk a o ∧ Own B [(p, .lst xs), (row, o)] H') ⟨⟨_, _, _, _, _, _, _, _, rfl⟩, o, ok, O⟩ ?_ ?_
        · clear O ok
          rintro i σ H' hi ⟨⟨v5, v6, v7, v8, v9, v10, v11, v12, rfl⟩, o, ok, O⟩
          walk_at "g"
          refine use_law_number O 1 rfl ok (sB.seq hS) (fun n o H7 hn0 hn1 ok O => ?_)
          walk_at "g"
          refine ⟨p, rfl, ⟨xs, Own.sq O 0 rfl⟩, ?_⟩
          refine for_list (xs := xs) (fun j σ H' => (∃ v12, σ = [some (.ref a), some (.ref row), some (.int e), some (.ref p), some (.int pr), v5, v6, v7, v8, some (.int (0 + (i : Int))), some (.int n), some (.int (behA (l.take j) n)), v12, none]) ∧ Own B [(p, .lst xs), (row, o)] H') ⟨⟨_, rfl⟩, O⟩ (fun j σ H' _ ⟨_, O⟩ => Own.sq O 0 rfl) ?_ ?_
          · clear O
            rintro j x σ H' hj ⟨⟨v12, rfl⟩, O⟩
            obtain ⟨jl, q, rfl, hq⟩ := told_at tl hj
            have yok := gd.ok _ (List.getElem_mem jl)
            have e2 := behA_take jl n
            generalize l[j] = y at *
            walk_at "g"
            refine ⟨q, y.1, y.2.1, y.2.2, _, rfl, SqL.of (O.st _ _ hq), yok, ?_⟩
            walk_at "g"
            refine ⟨⟨some (.ref q), ?_⟩, O⟩
            rw [e2]; rfl
          clear O
          rintro σ H' ⟨⟨v12, rfl⟩, O⟩
          rw [tl.1, List.take_length]
          have hr : behA l n % e = pr * n % e := same_dvd (gd.rest n)
          walk_at "g"
          exact ⟨⟨_, _, _, _, _, _, _, _, rfl⟩, o, ok, O⟩
        · rintro σ H' ⟨⟨v5, v6, v7, v8, v9, v10, v11, v12, rfl⟩, o, ok, O⟩
          walk_at "g"
          exact h _

end
theorem all_mk {l : PySem.W.OpenLaw} {w : World} {K : Frag} {h : Heap} {mg : Str → Option Value} {fa f0 f1 f2 f3 f4 f5 f6 f7 f8 f9 f10 f11 f12 f13 f14 f15 f16 f17 f18 f19 f20 f21 f22 CTrick : Addr} (X : K.In h) (G : h.Ns mainGlobals mg) (hfa : mg "law" = some (.ref fa))
    {od0 an0 : Option Addr} {sl0 : Array (Option Value)} {oc0 kV0 dc0 pm0 cd0 ct0 : Value}
    {od1 an1 : Option Addr} {sl1 : Array (Option Value)} {oc1 kV1 dc1 pm1 cd1 ct1 : Value}
    {od2 an2 : Option Addr} {sl2 : Array (Option Value)} {oc2 kV2 dc2 pm2 cd2 ct2 : Value}
    {od3 an3 : Option Addr} {sl3 : Array (Option Value)} {oc3 kV3 dc3 pm3 cd3 ct3 : Value}
    {od4 an4 : Option Addr} {sl4 : Array (Option Value)} {oc4 kV4 dc4 pm4 cd4 ct4 : Value}
    {od5 an5 : Option Addr} {sl5 : Array (Option Value)} {oc5 kV5 dc5 pm5 cd5 ct5 : Value}
    {od6 an6 : Option Addr} {sl6 : Array (Option Value)} {oc6 kV6 dc6 pm6 cd6 ct6 : Value}
    {od7 an7 : Option Addr} {sl7 : Array (Option Value)} {oc7 kV7 dc7 pm7 cd7 ct7 : Value}
    {od8 an8 : Option Addr} {sl8 : Array (Option Value)} {oc8 kV8 dc8 pm8 cd8 ct8 : Value}
    {od9 an9 : Option Addr} {sl9 : Array (Option Value)} {oc9 kV9 dc9 pm9 cd9 ct9 : Value}
    {od10 an10 : Option Addr} {sl10 : Array (Option Value)} {oc10 kV10 dc10 pm10 cd10 ct10 : Value}
    {od11 an11 : Option Addr} {sl11 : Array (Option Value)} {oc11 kV11 dc11 pm11 cd11 ct11 : Value}
    {od12 an12 : Option Addr} {sl12 : Array (Option Value)} {oc12 kV12 dc12 pm12 cd12 ct12 : Value}
    {od13 an13 : Option Addr} {sl13 : Array (Option Value)} {oc13 kV13 dc13 pm13 cd13 ct13 : Value}
    {od14 an14 : Option Addr} {sl14 : Array (Option Value)} {oc14 kV14 dc14 pm14 cd14 ct14 : Value}
    {od15 an15 : Option Addr} {sl15 : Array (Option Value)} {oc15 kV15 dc15 pm15 cd15 ct15 : Value}
    {od16 an16 : Option Addr} {sl16 : Array (Option Value)} {oc16 kV16 dc16 pm16 cd16 ct16 : Value}
    {od17 an17 : Option Addr} {sl17 : Array (Option Value)} {oc17 kV17 dc17 pm17 cd17 ct17 : Value}
    {od18 an18 : Option Addr} {sl18 : Array (Option Value)} {oc18 kV18 dc18 pm18 cd18 ct18 : Value}
    {od19 an19 : Option Addr} {sl19 : Array (Option Value)} {oc19 kV19 dc19 pm19 cd19 ct19 : Value}
    {od20 an20 : Option Addr} {sl20 : Array (Option Value)} {oc20 kV20 dc20 pm20 cd20 ct20 : Value}
    {od21 an21 : Option Addr} {sl21 : Array (Option Value)} {oc21 kV21 dc21 pm21 cd21 ct21 : Value}
    {od22 an22 : Option Addr} {sl22 : Array (Option Value)} {oc22 kV22 dc22 pm22 cd22 ct22 : Value}
    {tk_LEAST_BASE : Tok}
    {tk_MOST_BASE : Tok}
    {tk_MOST_DIVISOR : Tok}
    {tk_MOST_TAKE : Tok}
    {tk_MOST_TIMES : Tok}
    {tk_MOST_TRICKS : Tok}
    {tk_MOST_WIDE : Tok}
    {tk_MOST_CHAIN_DIVISOR : Tok}
    (a0 : PySem.W.nsIn K mainGlobals "is_from" = some (some (.ref f0)))
    (l0 : K.lookup f0 = some ⟨oc0, od0, .func (PySem.W.fnOf "is_from" "is_from" (defArgs s_is_from) (defBody s_is_from) (defScope s_is_from) .none kV0 dc0 pm0 an0 cd0 ct0), sl0⟩)
    (c0 : PySem.W.codeIn K cd0 "is_from" = true)
    (k0 : PySem.W.keepIn K (.ref f0) = true)
    (a1 : PySem.W.nsIn K mainGlobals "need_base" = some (some (.ref f1)))
    (l1 : K.lookup f1 = some ⟨oc1, od1, .func (PySem.W.fnOf "need_base" "need_base" (defArgs s_need_base) (defBody s_need_base) (defScope s_need_base) .none kV1 dc1 pm1 an1 cd1 ct1), sl1⟩)
    (c1 : PySem.W.codeIn K cd1 "need_base" = true)
    (k1 : PySem.W.keepIn K (.ref f1) = true)
    (a2 : PySem.W.nsIn K mainGlobals "need_divisor" = some (some (.ref f2)))
    (l2 : K.lookup f2 = some ⟨oc2, od2, .func (PySem.W.fnOf "need_divisor" "need_divisor" (defArgs s_need_divisor) (defBody s_need_divisor) (defScope s_need_divisor) .none kV2 dc2 pm2 an2 cd2 ct2), sl2⟩)
    (c2 : PySem.W.codeIn K cd2 "need_divisor" = true)
    (k2 : PySem.W.keepIn K (.ref f2) = true)
    (a3 : PySem.W.nsIn K mainGlobals "common" = some (some (.ref f3)))
    (l3 : K.lookup f3 = some ⟨oc3, od3, .func (PySem.W.fnOf "common" "common" (defArgs s_common) (defBody s_common) (defScope s_common) .none kV3 dc3 pm3 an3 cd3 ct3), sl3⟩)
    (c3 : PySem.W.codeIn K cd3 "common" = true)
    (k3 : PySem.W.keepIn K (.ref f3) = true)
    (a4 : PySem.W.nsIn K mainGlobals "power" = some (some (.ref f4)))
    (l4 : K.lookup f4 = some ⟨oc4, od4, .func (PySem.W.fnOf "power" "power" (defArgs s_power) (defBody s_power) (defScope s_power) .none kV4 dc4 pm4 an4 cd4 ct4), sl4⟩)
    (c4 : PySem.W.codeIn K cd4 "power" = true)
    (k4 : PySem.W.keepIn K (.ref f4) = true)
    (a5 : PySem.W.findIn K (.ref CTrick) "__init__" = some (some (.ref f5)))
    (i5 : PySem.W.isFn K (.ref f5) = true)
    (l5 : K.lookup f5 = some ⟨oc5, od5, .func (PySem.W.fnOf "__init__" "Trick.__init__" (defArgs s_Trick_init) (defBody s_Trick_init) (defScope s_Trick_init) .none kV5 dc5 pm5 an5 cd5 ct5), sl5⟩)
    (c5 : PySem.W.codeIn K cd5 "Trick.__init__" = true)
    (k5 : PySem.W.keepIn K (.ref f5) = true)
    (a6 : PySem.W.nsIn K mainGlobals "need_trick" = some (some (.ref f6)))
    (l6 : K.lookup f6 = some ⟨oc6, od6, .func (PySem.W.fnOf "need_trick" "need_trick" (defArgs s_need_trick) (defBody s_need_trick) (defScope s_need_trick) .none kV6 dc6 pm6 an6 cd6 ct6), sl6⟩)
    (c6 : PySem.W.codeIn K cd6 "need_trick" = true)
    (k6 : PySem.W.keepIn K (.ref f6) = true)
    (a7 : PySem.W.nsIn K mainGlobals "behind" = some (some (.ref f7)))
    (l7 : K.lookup f7 = some ⟨oc7, od7, .func (PySem.W.fnOf "behind" "behind" (defArgs s_behind) (defBody s_behind) (defScope s_behind) .none kV7 dc7 pm7 an7 cd7 ct7), sl7⟩)
    (c7 : PySem.W.codeIn K cd7 "behind" = true)
    (k7 : PySem.W.keepIn K (.ref f7) = true)
    (a8 : PySem.W.nsIn K mainGlobals "word_of" = some (some (.ref f8)))
    (l8 : K.lookup f8 = some ⟨oc8, od8, .func (PySem.W.fnOf "word_of" "word_of" (defArgs s_word_of) (defBody s_word_of) (defScope s_word_of) .none kV8 dc8 pm8 an8 cd8 ct8), sl8⟩)
    (c8 : PySem.W.codeIn K cd8 "word_of" = true)
    (k8 : PySem.W.keepIn K (.ref f8) = true)
    (a9 : PySem.W.nsIn K mainGlobals "factor_by" = some (some (.ref f9)))
    (l9 : K.lookup f9 = some ⟨oc9, od9, .func (PySem.W.fnOf "factor_by" "factor_by" (defArgs s_factor_by) (defBody s_factor_by) (defScope s_factor_by) .none kV9 dc9 pm9 an9 cd9 ct9), sl9⟩)
    (c9 : PySem.W.codeIn K cd9 "factor_by" = true)
    (k9 : PySem.W.keepIn K (.ref f9) = true)
    (a10 : PySem.W.nsIn K mainGlobals "factor" = some (some (.ref f10)))
    (l10 : K.lookup f10 = some ⟨oc10, od10, .func (PySem.W.fnOf "factor" "factor" (defArgs s_factor) (defBody s_factor) (defScope s_factor) .none kV10 dc10 pm10 an10 cd10 ct10), sl10⟩)
    (c10 : PySem.W.codeIn K cd10 "factor" = true)
    (k10 : PySem.W.keepIn K (.ref f10) = true)
    (a11 : PySem.W.nsIn K mainGlobals "need_tricks" = some (some (.ref f11)))
    (l11 : K.lookup f11 = some ⟨oc11, od11, .func (PySem.W.fnOf "need_tricks" "need_tricks" (defArgs s_need_tricks) (defBody s_need_tricks) (defScope s_need_tricks) .none kV11 dc11 pm11 an11 cd11 ct11), sl11⟩)
    (c11 : PySem.W.codeIn K cd11 "need_tricks" = true)
    (k11 : PySem.W.keepIn K (.ref f11) = true)
    (a12 : PySem.W.nsIn K mainGlobals "behind_all" = some (some (.ref f12)))
    (l12 : K.lookup f12 = some ⟨oc12, od12, .func (PySem.W.fnOf "behind_all" "behind_all" (defArgs s_behind_all) (defBody s_behind_all) (defScope s_behind_all) .none kV12 dc12 pm12 an12 cd12 ct12), sl12⟩)
    (c12 : PySem.W.codeIn K cd12 "behind_all" = true)
    (k12 : PySem.W.keepIn K (.ref f12) = true)
    (a13 : PySem.W.nsIn K mainGlobals "wide_of" = some (some (.ref f13)))
    (l13 : K.lookup f13 = some ⟨oc13, od13, .func (PySem.W.fnOf "wide_of" "wide_of" (defArgs s_wide_of) (defBody s_wide_of) (defScope s_wide_of) .none kV13 dc13 pm13 an13 cd13 ct13), sl13⟩)
    (c13 : PySem.W.codeIn K cd13 "wide_of" = true)
    (k13 : PySem.W.keepIn K (.ref f13) = true)
    (a14 : PySem.W.nsIn K mainGlobals "need_chain" = some (some (.ref f14)))
    (l14 : K.lookup f14 = some ⟨oc14, od14, .func (PySem.W.fnOf "need_chain" "need_chain" (defArgs s_need_chain) (defBody s_need_chain) (defScope s_need_chain) .none kV14 dc14 pm14 an14 cd14 ct14), sl14⟩)
    (c14 : PySem.W.codeIn K cd14 "need_chain" = true)
    (k14 : PySem.W.keepIn K (.ref f14) = true)
    (a15 : PySem.W.nsIn K mainGlobals "first_fail" = some (some (.ref f15)))
    (l15 : K.lookup f15 = some ⟨oc15, od15, .func (PySem.W.fnOf "first_fail" "first_fail" (defArgs s_first_fail) (defBody s_first_fail) (defScope s_first_fail) .none kV15 dc15 pm15 an15 cd15 ct15), sl15⟩)
    (c15 : PySem.W.codeIn K cd15 "first_fail" = true)
    (k15 : PySem.W.keepIn K (.ref f15) = true)
    (a16 : PySem.W.nsIn K mainGlobals "first_unlike" = some (some (.ref f16)))
    (l16 : K.lookup f16 = some ⟨oc16, od16, .func (PySem.W.fnOf "first_unlike" "first_unlike" (defArgs s_first_unlike) (defBody s_first_unlike) (defScope s_first_unlike) .none kV16 dc16 pm16 an16 cd16 ct16), sl16⟩)
    (c16 : PySem.W.codeIn K cd16 "first_unlike" = true)
    (k16 : PySem.W.keepIn K (.ref f16) = true)
    (a17 : PySem.W.nsIn K mainGlobals "chain_tells" = some (some (.ref f17)))
    (l17 : K.lookup f17 = some ⟨oc17, od17, .func (PySem.W.fnOf "chain_tells" "chain_tells" (defArgs s_chain_tells) (defBody s_chain_tells) (defScope s_chain_tells) .none kV17 dc17 pm17 an17 cd17 ct17), sl17⟩)
    (c17 : PySem.W.codeIn K cd17 "chain_tells" = true)
    (k17 : PySem.W.keepIn K (.ref f17) = true)
    (a18 : PySem.W.nsIn K mainGlobals "_law_taken" = some (some (.ref f18)))
    (l18 : K.lookup f18 = some ⟨oc18, od18, .func (PySem.W.fnOf "_law_taken" "_law_taken" (defArgs s_law_taken) (defBody s_law_taken) (defScope s_law_taken) .none kV18 dc18 pm18 an18 cd18 ct18), sl18⟩)
    (c18 : PySem.W.codeIn K cd18 "_law_taken" = true)
    (k18 : PySem.W.keepIn K (.ref f18) = true)
    (a19 : PySem.W.nsIn K mainGlobals "_law_behind" = some (some (.ref f19)))
    (l19 : K.lookup f19 = some ⟨oc19, od19, .func (PySem.W.fnOf "_law_behind" "_law_behind" (defArgs s_law_behind) (defBody s_law_behind) (defScope s_law_behind) .none kV19 dc19 pm19 an19 cd19 ct19), sl19⟩)
    (c19 : PySem.W.codeIn K cd19 "_law_behind" = true)
    (k19 : PySem.W.keepIn K (.ref f19) = true)
    (a20 : PySem.W.nsIn K mainGlobals "_law_number" = some (some (.ref f20)))
    (l20 : K.lookup f20 = some ⟨oc20, od20, .func (PySem.W.fnOf "_law_number" "_law_number" (defArgs s_law_number) (defBody s_law_number) (defScope s_law_number) .none kV20 dc20 pm20 an20 cd20 ct20), sl20⟩)
    (c20 : PySem.W.codeIn K cd20 "_law_number" = true)
    (k20 : PySem.W.keepIn K (.ref f20) = true)
    (a21 : PySem.W.nsIn K mainGlobals "_law_tricks" = some (some (.ref f21)))
    (l21 : K.lookup f21 = some ⟨oc21, od21, .func (PySem.W.fnOf "_law_tricks" "_law_tricks" (defArgs s_law_tricks) (defBody s_law_tricks) (defScope s_law_tricks) .none kV21 dc21 pm21 an21 cd21 ct21), sl21⟩)
    (c21 : PySem.W.codeIn K cd21 "_law_tricks" = true)
    (k21 : PySem.W.keepIn K (.ref f21) = true)
    (a22 : PySem.W.nsIn K mainGlobals "law" = some (some (.ref f22)))
    (l22 : K.lookup f22 = some ⟨oc22, od22, .func (PySem.W.fnOf "law" "law" (defArgs s_law) (defBody s_law) (defScope s_law) .none kV22 dc22 pm22 an22 cd22 ct22), sl22⟩)
    (c22 : PySem.W.codeIn K cd22 "law" = true)
    (k22 : PySem.W.keepIn K (.ref f22) = true)
    (aCTrick : PySem.W.nsIn K mainGlobals "Trick" = some (some (.ref CTrick)))
    (pgTrick : PySem.W.plainGet K CTrick Str.empty = true)
    (hdTrick : PySem.W.hasDictIn K CTrick = true)
    (poTrick : PySem.W.plainOver K CTrick = true)
    (saTrick : PySem.W.findIn K (.ref CTrick) "__setattr__" = some (some (.builtin "object.__setattr__")))
    (mkTrick : PySem.W.makesIn K CTrick = true)
    (kcTrick : PySem.W.keepIn K (.ref CTrick) = true)
    (icTrick : PySem.W.findIn K (.ref CTrick) "__class__" = some (some (.builtin "object.__class__")))
    (mcTrick : PySem.W.mroIn K CTrick (.type "object") = some true)
    (nfTrick_basis : PySem.W.findIn K (.ref CTrick) "basis" = some none)
    (nfTrick_many : PySem.W.findIn K (.ref CTrick) "many" = some none)
    (nfTrick_factor : PySem.W.findIn K (.ref CTrick) "factor" = some none)
    (nfTrick_block : PySem.W.findIn K (.ref CTrick) "block" = some none)
    (snA : PySem.W.specialIn K (.builtin "object.__class__") "__get__" = some (some (.builtin "getset_descriptor.__get__")))
    (tkA : PySem.W.takesIn K (.builtin "object.__class__") = some true)
    (v_LEAST_BASE : PySem.W.nsIn K mainGlobals "LEAST_BASE" = some (some (.int (2) tk_LEAST_BASE)))
    (v_MOST_BASE : PySem.W.nsIn K mainGlobals "MOST_BASE" = some (some (.int (16) tk_MOST_BASE)))
    (v_MOST_DIVISOR : PySem.W.nsIn K mainGlobals "MOST_DIVISOR" = some (some (.int (100) tk_MOST_DIVISOR)))
    (v_MOST_TAKE : PySem.W.nsIn K mainGlobals "MOST_TAKE" = some (some (.int (2) tk_MOST_TAKE)))
    (v_MOST_TIMES : PySem.W.nsIn K mainGlobals "MOST_TIMES" = some (some (.int (100) tk_MOST_TIMES)))
    (v_MOST_TRICKS : PySem.W.nsIn K mainGlobals "MOST_TRICKS" = some (some (.int (4) tk_MOST_TRICKS)))
    (v_MOST_WIDE : PySem.W.nsIn K mainGlobals "MOST_WIDE" = some (some (.int (300) tk_MOST_WIDE)))
    (v_MOST_CHAIN_DIVISOR : PySem.W.nsIn K mainGlobals "MOST_CHAIN_DIVISOR" = some (some (.int (30) tk_MOST_CHAIN_DIVISOR)))
    (z_isinstance : PySem.W.nsIn K mainGlobals "isinstance" = some none)
    (z_int : PySem.W.nsIn K mainGlobals "int" = some none)
    (z_bool : PySem.W.nsIn K mainGlobals "bool" = some none)
    (z_abs : PySem.W.nsIn K mainGlobals "abs" = some none)
    (z_range : PySem.W.nsIn K mainGlobals "range" = some none)
    (z_enumerate : PySem.W.nsIn K mainGlobals "enumerate" = some none)
    (z_list : PySem.W.nsIn K mainGlobals "list" = some none)
    (z_tuple : PySem.W.nsIn K mainGlobals "tuple" = some none)
    (z_len : PySem.W.nsIn K mainGlobals "len" = some none)
    : ∃ fd : FuncData, (∀ (s : Shared) (v : Value), BindsTo s fd ⟨[v], []⟩ [("_law_script", v)]) ∧ ∀ base : Heap, K.In base → base.Ns mainGlobals mg → FnOk l.prog w K mg base CX0 6 fa fd ["_law_script"] (sp_law K) := by
  have e := hfa.symm.trans (PySem.W.mg_of X G a22)
  cases e
  have F0 := fun_mk (st := s_is_from) l0 c0 k0
  have b0 := F0.binds (ps := p_is_from) fun _ _ _ _ _ _ us hl => match us, hl with | [_, _, _], _ => rfl
  have F1 := fun_mk (st := s_need_base) l1 c1 k1
  have b1 := F1.binds (ps := p_need_base) fun _ _ _ _ _ _ us hl => match us, hl with | [_], _ => rfl
  have F2 := fun_mk (st := s_need_divisor) l2 c2 k2
  have b2 := F2.binds (ps := p_need_divisor) fun _ _ _ _ _ _ us hl => match us, hl with | [_, _], _ => rfl
  have F3 := fun_mk (st := s_common) l3 c3 k3
  have b3 := F3.binds (ps := p_common) fun _ _ _ _ _ _ us hl => match us, hl with | [_, _], _ => rfl
  have F4 := fun_mk (st := s_power) l4 c4 k4
  have b4 := F4.binds (ps := p_power) fun _ _ _ _ _ _ us hl => match us, hl with | [_, _], _ => rfl
  have F5 := fun_mk (st := s_Trick_init) l5 c5 k5
  have b5 := F5.binds (ps := p_Trick_init) fun _ _ _ _ _ _ us hl => match us, hl with | [_, _, _, _], _ => rfl
  have F6 := fun_mk (st := s_need_trick) l6 c6 k6
  have b6 := F6.binds (ps := p_need_trick) fun _ _ _ _ _ _ us hl => match us, hl with | [_], _ => rfl
  have F7 := fun_mk (st := s_behind) l7 c7 k7
  have b7 := F7.binds (ps := p_behind) fun _ _ _ _ _ _ us hl => match us, hl with | [_, _], _ => rfl
  have F8 := fun_mk (st := s_word_of) l8 c8 k8
  have b8 := F8.binds (ps := p_word_of) fun _ _ _ _ _ _ us hl => match us, hl with | [_, _], _ => rfl
  have F9 := fun_mk (st := s_factor_by) l9 c9 k9
  have b9 := F9.binds (ps := p_factor_by) fun _ _ _ _ _ _ us hl => match us, hl with | [_, _], _ => rfl
  have F10 := fun_mk (st := s_factor) l10 c10 k10
  have b10 := F10.binds (ps := p_factor) fun _ _ _ _ _ _ us hl => match us, hl with | [_, _], _ => rfl
  have F11 := fun_mk (st := s_need_tricks) l11 c11 k11
  have b11 := F11.binds (ps := p_need_tricks) fun _ _ _ _ _ _ us hl => match us, hl with | [_], _ => rfl
  have F12 := fun_mk (st := s_behind_all) l12 c12 k12
  have b12 := F12.binds (ps := p_behind_all) fun _ _ _ _ _ _ us hl => match us, hl with | [_, _], _ => rfl
  have F13 := fun_mk (st := s_wide_of) l13 c13 k13
  have b13 := F13.binds (ps := p_wide_of) fun _ _ _ _ _ _ us hl => match us, hl with | [_], _ => rfl
  have F14 := fun_mk (st := s_need_chain) l14 c14 k14
  have b14 := F14.binds (ps := p_need_chain) fun _ _ _ _ _ _ us hl => match us, hl with | [_, _], _ => rfl
  have F15 := fun_mk (st := s_first_fail) l15 c15 k15
  have b15 := F15.binds (ps := p_first_fail) fun _ _ _ _ _ _ us hl => match us, hl with | [_, _], _ => rfl
  have F16 := fun_mk (st := s_first_unlike) l16 c16 k16
  have b16 := F16.binds (ps := p_first_unlike) fun _ _ _ _ _ _ us hl => match us, hl with | [_, _], _ => rfl
  have F17 := fun_mk (st := s_chain_tells) l17 c17 k17
  have b17 := F17.binds (ps := p_chain_tells) fun _ _ _ _ _ _ us hl => match us, hl with | [_, _], _ => rfl
  have F18 := fun_mk (st := s_law_taken) l18 c18 k18
  have b18 := F18.binds (ps := p_law_taken) fun _ _ _ _ _ _ us hl => match us, hl with | [_, _], _ => rfl
  have F19 := fun_mk (st := s_law_behind) l19 c19 k19
  have b19 := F19.binds (ps := p_law_behind) fun _ _ _ _ _ _ us hl => match us, hl with | [_, _], _ => rfl
  have F20 := fun_mk (st := s_law_number) l20 c20 k20
  have b20 := F20.binds (ps := p_law_number) fun _ _ _ _ _ _ us hl => match us, hl with | [_], _ => rfl
  have F21 := fun_mk (st := s_law_tricks) l21 c21 k21
  have b21 := F21.binds (ps := p_law_tricks) fun _ _ _ _ _ _ us hl => match us, hl with | [_], _ => rfl
  have F22 := fun_mk (st := s_law) l22 c22 k22
  have b22 := F22.binds (ps := p_law) fun _ _ _ _ _ _ us hl => match us, hl with | [_], _ => rfl
  have T : Txt K mg ⟨f0, _, f1, _, f2, _, f3, _, f4, _, f5, _, f6, _, f7, _, f8, _, f9, _, f10, _, f11, _, f12, _, f13, _, f14, _, f15, _, f16, _, f17, _, f18, _, f19, _, f20, _, f21, _, fa, _, CTrick⟩ :=
    { F_is_from := F0,
      b_is_from := b0,
      g_is_from := PySem.W.mg_of X G a0,
      F_need_base := F1,
      b_need_base := b1,
      g_need_base := PySem.W.mg_of X G a1,
      F_need_divisor := F2,
      b_need_divisor := b2,
      g_need_divisor := PySem.W.mg_of X G a2,
      F_common := F3,
      b_common := b3,
      g_common := PySem.W.mg_of X G a3,
      F_power := F4,
      b_power := b4,
      g_power := PySem.W.mg_of X G a4,
      F_Trick_init := F5,
      b_Trick_init := b5,
      F_need_trick := F6,
      b_need_trick := b6,
      g_need_trick := PySem.W.mg_of X G a6,
      F_behind := F7,
      b_behind := b7,
      g_behind := PySem.W.mg_of X G a7,
      F_word_of := F8,
      b_word_of := b8,
      g_word_of := PySem.W.mg_of X G a8,
      F_factor_by := F9,
      b_factor_by := b9,
      g_factor_by := PySem.W.mg_of X G a9,
      F_factor := F10,
      b_factor := b10,
      g_factor := PySem.W.mg_of X G a10,
      F_need_tricks := F11,
      b_need_tricks := b11,
      g_need_tricks := PySem.W.mg_of X G a11,
      F_behind_all := F12,
      b_behind_all := b12,
      g_behind_all := PySem.W.mg_of X G a12,
      F_wide_of := F13,
      b_wide_of := b13,
      g_wide_of := PySem.W.mg_of X G a13,
      F_need_chain := F14,
      b_need_chain := b14,
      g_need_chain := PySem.W.mg_of X G a14,
      F_first_fail := F15,
      b_first_fail := b15,
      g_first_fail := PySem.W.mg_of X G a15,
      F_first_unlike := F16,
      b_first_unlike := b16,
      g_first_unlike := PySem.W.mg_of X G a16,
      F_chain_tells := F17,
      b_chain_tells := b17,
      g_chain_tells := PySem.W.mg_of X G a17,
      F_law_taken := F18,
      b_law_taken := b18,
      g_law_taken := PySem.W.mg_of X G a18,
      F_law_behind := F19,
      b_law_behind := b19,
      g_law_behind := PySem.W.mg_of X G a19,
      F_law_number := F20,
      b_law_number := b20,
      g_law_number := PySem.W.mg_of X G a20,
      F_law_tricks := F21,
      b_law_tricks := b21,
      g_law_tricks := PySem.W.mg_of X G a21,
      F_law := F22,
      b_law := b22,
      g_law := PySem.W.mg_of X G a22,
      g_Trick := PySem.W.mg_of X G aCTrick,
      cl_Trick := ⟨pgTrick, hdTrick, poTrick, saTrick⟩,
      is_Trick := ⟨⟨pgTrick, hdTrick, poTrick, saTrick⟩, icTrick, snA, tkA, mcTrick, if_pos (beq_self_eq_true _)⟩,
      M_Trick := ⟨mkTrick, a5, i5, kcTrick⟩,
      nf_Trick_basis := nfTrick_basis,
      nf_Trick_many := nfTrick_many,
      nf_Trick_factor := nfTrick_factor,
      nf_Trick_block := nfTrick_block,
      v_LEAST_BASE := ⟨_, PySem.W.mg_of X G v_LEAST_BASE⟩,
      v_MOST_BASE := ⟨_, PySem.W.mg_of X G v_MOST_BASE⟩,
      v_MOST_DIVISOR := ⟨_, PySem.W.mg_of X G v_MOST_DIVISOR⟩,
      v_MOST_TAKE := ⟨_, PySem.W.mg_of X G v_MOST_TAKE⟩,
      v_MOST_TIMES := ⟨_, PySem.W.mg_of X G v_MOST_TIMES⟩,
      v_MOST_TRICKS := ⟨_, PySem.W.mg_of X G v_MOST_TRICKS⟩,
      v_MOST_WIDE := ⟨_, PySem.W.mg_of X G v_MOST_WIDE⟩,
      v_MOST_CHAIN_DIVISOR := ⟨_, PySem.W.mg_of X G v_MOST_CHAIN_DIVISOR⟩,
      n_isinstance := PySem.W.mg_none_of X G z_isinstance,
      n_int := PySem.W.mg_none_of X G z_int,
      n_bool := PySem.W.mg_none_of X G z_bool,
      n_abs := PySem.W.mg_none_of X G z_abs,
      n_range := PySem.W.mg_none_of X G z_range,
      n_enumerate := PySem.W.mg_none_of X G z_enumerate,
      n_list := PySem.W.mg_none_of X G z_list,
      n_tuple := PySem.W.mg_none_of X G z_tuple,
      n_len := PySem.W.mg_none_of X G z_len }
  exact ⟨_, fun s v => .of_eq rfl, fun base _ _ => ok_law T⟩
theorem walk {l : PySem.W.OpenLaw} {q : Program} {loose : List Str} {XP : (Str → Option Value) → Heap → Prop} {YP : World → Heap → Prop} {d : DefRec} {K : Params → Frag} (hn : l.most = some 63) (hdf : d.params.defaults = [])
    (hY : ∀ (w : World) (h : Heap), YP w h → (K w.params).In h)
    (F : ∀ (w : World) (mg : Str → Option Value) (fa : Addr) (h : Heap), (K w.params).In h → h.Ns mainGlobals mg → mg d.name = some (.ref fa) →
      ∃ fd : FuncData, (∀ (s : Shared) (u : Value), BindsTo s fd ⟨[u], []⟩ [("_law_script", u)]) ∧ ∀ base : Heap, (K w.params).In base → base.Ns mainGlobals mg → FnOk l.prog w (K w.params) mg base CX0 6 fa fd ["_law_script"] (sp_law (K w.params))) :
    PySem.W.WalkO q loose XP YP l.row.toRowW d [] (fun f vs => PySem.call f vs) :=
  L2.walk_of (n := 63) (k := 6) (x := "_law_script") (CX := fun _ => CX0) (sp := fun w => sp_law (K w.params)) hn (by decide) hdf ⟨rfl, by decide, by decide⟩ hY F (fun _ _ a ns hl _ hS => ⟨a, ns, rfl, hS, hl, fun _ => rfl⟩) fun _ _ _ _ _ z => z
end Toy

open PySem PySem.W PyProof.Rows
set_option maxRecDepth 100000 in
set_option maxHeartbeats 0 in
theorem PySem.Challenge.cw_resttricks_k32_whole_good_chains_holds : PySem.Challenge.rw_resttricks_k32_whole_good_chains.Holds := by
  w_on; o_law; k_head; (case hw => w_witness2)
  k_fill
  refine Toy.walk (l := PySem.Challenge.rw_resttricks_k32_whole_good_chains) rfl rfl (fun w h Y => PySem.W.kIn_of Y) ?F
  case F =>
    intro w mg fa h KX G hmg
    refine' Toy.all_mk KX G hmg ?a0 ?l0 ?c0 ?k0 ?a1 ?l1 ?c1 ?k1 ?a2 ?l2 ?c2 ?k2 ?a3 ?l3 ?c3 ?k3 ?a4 ?l4 ?c4 ?k4 ?a5 ?i5 ?l5 ?c5 ?k5 ?a6 ?l6 ?c6 ?k6 ?a7 ?l7 ?c7 ?k7 ?a8 ?l8 ?c8 ?k8 ?a9 ?l9 ?c9 ?k9 ?a10 ?l10 ?c10 ?k10 ?a11 ?l11 ?c11 ?k11 ?a12 ?l12 ?c12 ?k12 ?a13 ?l13 ?c13 ?k13 ?a14 ?l14 ?c14 ?k14 ?a15 ?l15 ?c15 ?k15 ?a16 ?l16 ?c16 ?k16 ?a17 ?l17 ?c17 ?k17 ?a18 ?l18 ?c18 ?k18 ?a19 ?l19 ?c19 ?k19 ?a20 ?l20 ?c20 ?k20 ?a21 ?l21 ?c21 ?k21 ?a22 ?l22 ?c22 ?k22 ?aCTrick ?pgTrick ?hdTrick ?poTrick ?saTrick ?mkTrick ?kcTrick ?icTrick ?mcTrick ?nfTrick_basis ?nfTrick_many ?nfTrick_factor ?nfTrick_block ?snA ?tkA ?v_LEAST_BASE ?v_MOST_BASE ?v_MOST_DIVISOR ?v_MOST_TAKE ?v_MOST_TIMES ?v_MOST_TRICKS ?v_MOST_WIDE ?v_MOST_CHAIN_DIVISOR ?z_isinstance ?z_int ?z_bool ?z_abs ?z_range ?z_enumerate ?z_list ?z_tuple ?z_len
    (case aCTrick => k_is)
    (case a0 => k_is)
    (case l0 => k_is)
    (case c0 => k_is)
    (case k0 => k_is)
    (case a1 => k_is)
    (case l1 => k_is)
    (case c1 => k_is)
    (case k1 => k_is)
    (case a2 => k_is)
    (case l2 => k_is)
    (case c2 => k_is)
    (case k2 => k_is)
    (case a3 => k_is)
    (case l3 => k_is)
    (case c3 => k_is)
    (case k3 => k_is)
    (case a4 => k_is)
    (case l4 => k_is)
    (case c4 => k_is)
    (case k4 => k_is)
    (case a5 => k_is)
    (case i5 => k_is)
    (case l5 => k_is)
    (case c5 => k_is)
    (case k5 => k_is)
    (case a6 => k_is)
    (case l6 => k_is)
    (case c6 => k_is)
    (case k6 => k_is)
    (case a7 => k_is)
    (case l7 => k_is)
    (case c7 => k_is)
    (case k7 => k_is)
    (case a8 => k_is)
    (case l8 => k_is)
    (case c8 => k_is)
    (case k8 => k_is)
    (case a9 => k_is)
    (case l9 => k_is)
    (case c9 => k_is)
    (case k9 => k_is)
    (case a10 => k_is)
    (case l10 => k_is)
    (case c10 => k_is)
    (case k10 => k_is)
    (case a11 => k_is)
    (case l11 => k_is)
    (case c11 => k_is)
    (case k11 => k_is)
    (case a12 => k_is)
    (case l12 => k_is)
    (case c12 => k_is)
    (case k12 => k_is)
    (case a13 => k_is)
    (case l13 => k_is)
    (case c13 => k_is)
    (case k13 => k_is)
    (case a14 => k_is)
    (case l14 => k_is)
    (case c14 => k_is)
    (case k14 => k_is)
    (case a15 => k_is)
    (case l15 => k_is)
    (case c15 => k_is)
    (case k15 => k_is)
    (case a16 => k_is)
    (case l16 => k_is)
    (case c16 => k_is)
    (case k16 => k_is)
    (case a17 => k_is)
    (case l17 => k_is)
    (case c17 => k_is)
    (case k17 => k_is)
    (case a18 => k_is)
    (case l18 => k_is)
    (case c18 => k_is)
    (case k18 => k_is)
    (case a19 => k_is)
    (case l19 => k_is)
    (case c19 => k_is)
    (case k19 => k_is)
    (case a20 => k_is)
    (case l20 => k_is)
    (case c20 => k_is)
    (case k20 => k_is)
    (case a21 => k_is)
    (case l21 => k_is)
    (case c21 => k_is)
    (case k21 => k_is)
    (case a22 => k_is)
    (case l22 => k_is)
    (case c22 => k_is)
    (case k22 => k_is)
    (case pgTrick => k_is)
    (case hdTrick => k_is)
    (case poTrick => k_is)
    (case saTrick => k_is)
    (case mkTrick => k_is)
    (case kcTrick => k_is)
    (case icTrick => k_is)
    (case mcTrick => k_is)
    (case nfTrick_basis => k_is)
    (case nfTrick_many => k_is)
    (case nfTrick_factor => k_is)
    (case nfTrick_block => k_is)
    (case snA => k_is)
    (case tkA => k_is)
    (case v_LEAST_BASE => k_is)
    (case v_MOST_BASE => k_is)
    (case v_MOST_DIVISOR => k_is)
    (case v_MOST_TAKE => k_is)
    (case v_MOST_TIMES => k_is)
    (case v_MOST_TRICKS => k_is)
    (case v_MOST_WIDE => k_is)
    (case v_MOST_CHAIN_DIVISOR => k_is)
    (case z_isinstance => k_is)
    (case z_int => k_is)
    (case z_bool => k_is)
    (case z_abs => k_is)
    (case z_range => k_is)
    (case z_enumerate => k_is)
    (case z_list => k_is)
    (case z_tuple => k_is)
    (case z_len => k_is)
