import PyProof.Rows.All
import Wide.All
import OpenK.AllK
import Wide.FinOn
import KE.KStateDown
import Lean
import HandS.ForMost
import HandS.Evl
import HandS.Exc
import HandS.WordsExc
import HandS.Defaults
import HandS.Conv
import HandS.RevRange
import HandS.Deep
import HandS.IsInst
import HandS.Head0
import HandS.Head1
import HandS.Head2
import HandS.HeadEnd
import HandS.HeadHook1
import HandS.HeadHook2
import HandS.HeadHook3
import HandS.HeadHook4
import HandS.ExcCtx
import HandS.HotCalls
import HandS.ExcIs
import HandS.ExcOwn
import HandS.WordsDict
import HandS.Text
import HandS.Iter
import HandS.More
import PySem.Challenge.RW_patchkin_k02_stores_begun
set_option Elab.async false
set_option linter.all false
set_option maxRecDepth 100000
set_option maxHeartbeats 4000000
namespace Pk
open PySem PySem.Spec PyProof.Rows L2
/-! ### heaps that grow -/
/-- all that H tells stands in H' -/
def Ex (H H' : Hp) : Prop := ∀ a o, H a = some o → H' a = some o
theorem Ex.refl (H : Hp) : Ex H H := fun _ _ e => e
theorem Ex.trans {H H1 H2 : Hp} (a : Ex H H1) (b : Ex H1 H2) : Ex H H2 := fun x o e => b x o (a x o e)
theorem Ex.at {H H1 : Hp} {a : Addr} {o : HO} (e : Ex H H1) (h : H a = some o) : H1 a = some o := e a o h
theorem Ex.new {H : Hp} {p : Addr} {o : HO} (h : H p = none) : Ex H (upd H p o) := fun a x e => by
  rw [upd_ne (ne_of_none e h)]
  exact e
/-- an object that H does not know may change -/
theorem Ex.mut {H H1 : Hp} {p : Addr} {o : HO} (e : Ex H H1) (h : H p = none) : Ex H (upd H1 p o) := fun a x q => by
  rw [upd_ne (ne_of_none q h)]
  exact e a x q
theorem Ex.back {H H1 : Hp} {p : Addr} (e : Ex H H1) (h : H1 p = none) : H p = none := by
  cases q : H p with
  | none => rfl
  | some o =>
    have z := e p o q
    rw [h] at z
    cases z
theorem Ex.seqL {K : PySem.W.Frag} {H H1 : Hp} {a : Addr} {xs : List V} (e : Ex H H1) (h : SqL K H a xs) : SqL K H1 a xs := Same.seq (H := H) e h
theorem Ex.rd {H H1 : Hp} {a : Addr} {u : HO} (e : Ex H H1) (h : Rd H a u) : Rd H1 a u := by
  rcases h with h | ⟨o, h⟩
  · exact .inl (e _ _ h)
  · exact .inr ⟨o, e _ _ h⟩
theorem Ex.seqT {K : PySem.W.Frag} {H H1 : Hp} {a : Addr} {xs : List V} (e : Ex H H1) (h : SqT K H a xs) : SqT K H1 a xs := by
  rcases h with h | h
  · exact .inl (e.rd h)
  · exact .inr h
mutual
theorem Ex.dp {K : PySem.W.Frag} {H H1 : Hp} (e : Ex H H1) : ∀ {v : V} {d : PyData}, Dp K H v d → Dp K H1 v d
  | _, _, .non => .non
  | _, _, .bl b => .bl b
  | _, _, .int i => .int i
  | _, _, .str x => .str x
  | _, _, .lst h r => .lst (e.seqL h) (e.dps r)
  | _, _, .tup h r => .tup (e.seqT h) (e.dps r)
theorem Ex.dps {K : PySem.W.Frag} {H H1 : Hp} (e : Ex H H1) : ∀ {vs : List V} {ds : List PyData}, DpAll K H vs ds → DpAll K H1 vs ds
  | _, _, .nil => .nil
  | _, _, .cons h r => .cons (e.dp h) (e.dps r)
end
theorem keep_new {H : Hp} {a p : Addr} {o x : HO} (hp : H p = none) (h : H a = some x) : upd H p o a = some x := Ex.new hp a x h
theorem lay_ex {H H1 : Hp} {p : Addr} {o : HO} (hp : H p = none) (q : upd H p o = H1) : Ex H H1 := q ▸ Ex.new hp
theorem lay_at {H H1 : Hp} {p : Addr} {o : HO} (q : upd H p o = H1) : H1 p = some o := q ▸ upd_same
theorem lay_mut {H H1 : Hp} {p : Addr} {o : HO} (q : upd H p o = H1) : ∀ a x, a ≠ p → H a = some x → H1 a = some x := fun a x n h => by
  rw [← q, upd_ne n]
  exact h
/-- behind a change of an object that H0 does not know -/
theorem Ex.mut2 {H0 H H1 : Hp} {p : Addr} (e : Ex H0 H) (h : H0 p = none) (m : ∀ a x, a ≠ p → H a = some x → H1 a = some x) : Ex H0 H1 := fun a x q => m a x (ne_of_none q h) (e a x q)
theorem line_le {n : Nat} (h : n ≤ 100000) : n ≤ sizeLine := by
  rw [sizeLine_eq]
  exact Nat.le_trans h (by decide)
theorem line_lt {n : Nat} (h : n < 100000) : n < sizeLine := by
  rw [sizeLine_eq]
  exact Nat.lt_of_lt_of_le h (by decide)
/-! ### a def that keeps its promise, with how it binds -/
structure Ok (P : Program) (w : World) (K : PySem.W.Frag) (mg : Str → Option Value) (base : Heap) (C : CXT) (k : Nat) (f : Addr) (ps : List Str) (sp : Sp) : Prop where
  ex : ∃ fd : FuncData, FnOk P w K mg base C k f fd ps sp ∧ Binds K fd ps []
/-! ### readings, step by step -/
section
variable {σ : L2.St} {H : Hp} {Q : VK} {K : PySem.W.Frag} {D : Ends} {ta tb tc te : TE} {t u : TS} {tt tu : TT} {a p : Addr} {xs : List V} {i j : Int} {v x y : V}
theorem rd_var {n : Nat} (h : σ[n]? = some (some v)) (q : Q v H) : tVar n σ H Q := ⟨v, h, q⟩
theorem rd_c (q : Q v H) : tC v σ H Q := q
theorem rd_op {r : R2} (q : ta σ H fun x H1 => tb σ H1 fun y H2 => r x y H2 Q) : tOp r ta tb σ H Q := q
theorem rd_un {r : V → Hp → VK → Prop} (q : ta σ H fun x H1 => r x H1 Q) : tUn r ta σ H Q := q
theorem rd_I0 {g : Int → Int → V} (q : Q (g i j) H) : rI0 g (.int i) (.int j) H Q := ⟨i, j, rfl, rfl, q⟩
theorem rd_I {C : Int → Int → Prop} {g : Int → Int → V} (c : C i j) (q : Q (g i j) H) : rI C g (.int i) (.int j) H Q := ⟨i, j, rfl, rfl, c, q⟩
theorem rd_U {g : Int → V} (q : Q (g i) H) : rU g (.int i) H Q := ⟨i, rfl, q⟩
theorem dec_int' : decide (V.int i = V.int j) = decide (i = j) := decide_eq_decide.mpr ⟨fun h => V.int.inj h, fun h => congrArg _ h⟩
theorem dec_str' {i j : Str} : decide (V.str i = V.str j) = decide (i = j) := decide_eq_decide.mpr ⟨fun h => V.str.inj h, fun h => congrArg _ h⟩
theorem rd_eqi (q : Q (.bl (decide (i = j))) H) : rEq (.int i) (.int j) H Q := ⟨rfl, by rw [dec_int']; exact q⟩
theorem rd_nei (q : Q (.bl (!decide (i = j))) H) : rNe (.int i) (.int j) H Q := ⟨rfl, by rw [dec_int']; exact q⟩
theorem rd_eqs {i j : Str} (q : Q (.bl (decide (i = j))) H) : rEq (.str i) (.str j) H Q := ⟨rfl, by rw [dec_str']; exact q⟩
theorem rd_nes {i j : Str} (q : Q (.bl (!decide (i = j))) H) : rNe (.str i) (.str j) H Q := ⟨rfl, by rw [dec_str']; exact q⟩
theorem rd_tup {t : TA} (q : t σ H fun xs H1 => xs.length ≤ sizeLine ∧ ∀ p, H1 p = none → Q (.ref p) (upd H1 p (.tup xs))) : tTup t σ H Q := q
theorem rd_lst {t : TA} (q : t σ H fun xs H1 => xs.length ≤ sizeLine ∧ ∀ p, H1 p = none → Q (.ref p) (upd H1 p (.lst xs))) : tLst t σ H Q := q
theorem rd_nil {Q : List V → Hp → Prop} (q : Q [] H) : tNil σ H Q := q
theorem rd_cons {t : TA} {Q : List V → Hp → Prop} (q : ta σ H fun x H1 => t σ H1 fun xs H2 => Q (x :: xs) H2) : tCons ta t σ H Q := q
theorem rd_cb {r : List V → Hp → VK → Prop} {t : TA} (q : t σ H fun vs H1 => r vs H1 Q) : tCB r t σ H Q := q
theorem rd_call {sp : Sp} {dvs : List V} {E : XK} {t : TA} (q : t σ H fun vs H1 => sp (vs ++ dvs) H1 Q E) : tCall sp dvs E t σ H Q := q
theorem rd_test {Q : Bool → Hp → Prop} (q : te σ H fun x H1 => ∃ k, x = .bl k ∧ Q k H1) : tTest te σ H Q := q
theorem rd_B {Q : Bool → Hp → Prop} (q : te σ H fun x H1 => ∃ k, x = .bl k ∧ Q k H1) : tB te σ H Q := q
theorem rd_tand {Q : Bool → Hp → Prop} (q : tt σ H fun c H1 => if c = true then tu σ H1 Q else Q false H1) : tAnd tt tu σ H Q := q
theorem rd_tor {Q : Bool → Hp → Prop} (q : tt σ H fun c H1 => if c = true then Q true H1 else tu σ H1 Q) : tOr tt tu σ H Q := q
theorem rd_tnot {Q : Bool → Hp → Prop} (q : tt σ H fun c H1 => Q (!c) H1) : tNot tt σ H Q := q
theorem rd_andV (q : ta σ H fun x H1 => ∃ c, x = .bl c ∧ if c = true then tb σ H1 Q else Q (.bl false) H1) : tAndV ta tb σ H Q := q
theorem rd_orV (q : ta σ H fun x H1 => ∃ c, x = .bl c ∧ if c = true then Q (.bl true) H1 else tb σ H1 Q) : tOrV ta tb σ H Q := q
theorem rd_notV (q : ta σ H fun x H1 => ∃ c, x = .bl c ∧ Q (.bl (!c)) H1) : tNotV ta σ H Q := q
theorem rd_ifx (q : tt σ H fun c H1 => if c = true then ta σ H1 Q else tb σ H1 Q) : tIf tt ta tb σ H Q := q
theorem rd_chain {r r' : R2} (q : ta σ H fun x H1 => tb σ H1 fun y H2 => r x y H2 fun z H3 => ∃ k, z = .bl k ∧ (if k = true then tc σ H3 fun w' H4 => r' y w' H4 Q else Q (.bl false) H3)) : tChain r r' ta tb tc σ H Q := q
theorem rd_bl {B : Bool → Prop} {b : Bool} (q : B b) : ∃ k, V.bl b = V.bl k ∧ B k := ⟨b, rfl, q⟩
theorem rd_ixL (h : SqL K H p xs) (ha : atI xs i = some v) (q : Q v H) : rIxL K (.ref p) (.int i) H Q := ⟨p, xs, i, v, rfl, rfl, h, ha, q⟩
theorem rd_ixT (h : SqT K H p xs) (ha : atI xs i = some v) (q : Q v H) : rIxT K (.ref p) (.int i) H Q := ⟨p, xs, i, v, rfl, rfl, h, ha, q⟩
theorem rd_lenL {B : Addr → List V → Prop} (h : SqL K H a xs) (q : B a xs) : ∃ p ys, [V.ref a] = [V.ref p] ∧ (SqL K H p ys ∨ SqT K H p ys) ∧ B p ys := ⟨a, xs, rfl, .inl h, q⟩
theorem rd_lenT {B : Addr → List V → Prop} (h : SqT K H a xs) (q : B a xs) : ∃ p ys, [V.ref a] = [V.ref p] ∧ (SqL K H p ys ∨ SqT K H p ys) ∧ B p ys := ⟨a, xs, rfl, .inr h, q⟩
theorem rd_lenS {B : Str → Prop} {s : Str} (h : s.length ≤ sizeLine) (q : B s) : ∃ z, [V.str s] = [V.str z] ∧ z.length ≤ sizeLine ∧ B z := ⟨s, rfl, h, q⟩
theorem rd_int2 {B : Int → Int → Prop} (q : B i j) : ∃ a b, [V.int i, V.int j] = [V.int a, V.int b] ∧ B a b := ⟨i, j, rfl, q⟩
theorem rd_int1 {B : Int → Prop} (q : B i) : ∃ a, [V.int i] = [V.int a] ∧ B a := ⟨i, rfl, q⟩
theorem rd_intb {A : Prop} {B : Bool → Prop} {b : Bool} (q : B b) : A ∨ ∃ k, [V.bl b] = [V.bl k] ∧ B k := .inr ⟨b, rfl, q⟩
theorem rd_isn {B : Prop} (q : B) : V.non = V.non ∧ B := ⟨rfl, q⟩
theorem rd_isN {B : Bool → Prop} {b : Bool} (h : decide (x = .non) = b) (q : B b) : V.non = V.non ∧ B (decide (x = .non)) := ⟨rfl, by rw [h]; exact q⟩
/-! statements -/
theorem rd_seq (q : t { D with nx := u D } σ H) : tSeq t u D σ H := q
theorem rd_cut (M : L2.St → Hp → Prop) (h : t { D with nx := M } σ H) (k : ∀ σ' H', M σ' H' → u D σ' H') : Evl.tCut t u D σ H := ⟨M, h, k⟩
theorem rd_next (q : D.nx σ H) : tNext D σ H := q
theorem rd_brk (q : D.bk σ H) : tBreak D σ H := q
theorem rd_asg {g : TG} (q : te σ H fun x H1 => g x σ H1 D.nx) : tAsg te g D σ H := q
theorem rd_gname {n : Nat} {Q : L2.St → Hp → Prop} (q : Q (σ.set n (some v)) H) : gName n v σ H Q := q
theorem rd_gsub {to ti : TE} {s : TSet} {Q : L2.St → Hp → Prop} (q : to σ H fun o H1 => ti σ H1 fun i H2 => s o i v H2 fun H3 => Q σ H3) : gSub to ti s v σ H Q := q
theorem rd_setL {Q : Hp → Prop} {l : Addr} {k : Nat} (h : H l = some (.lst xs)) (hk : k < xs.length) (q : Q (upd H l (.lst (xs.set k v)))) : rSetL (.ref l) (.int (k : Int)) v H Q :=
  ⟨l, xs, (k : Int), k, rfl, rfl, h, by unfold ixN; rw [if_pos (by omega), if_pos (by omega)]; simp, q⟩
theorem rd_drop (q : te σ H fun _ H1 => D.nx σ H1) : tDrop te D σ H := q
theorem rd_ret (q : te σ H D.rt) : tRet te D σ H := q
theorem rd_retN (q : D.rt .non H) : tRetN D σ H := q
theorem rd_ifs {c : TT} (q : c σ H fun b H1 => if b = true then t D σ H1 else u D σ H1) : tIfS c t u D σ H := q
theorem rd_nx {nx : L2.St → Hp → Prop} {rt : VK} {bk ct : L2.St → Hp → Prop} (q : nx σ H) : Ends.nx ⟨nx, rt, bk, ct⟩ σ H := q
theorem rd_rt {nx : L2.St → Hp → Prop} {rt : VK} {bk ct : L2.St → Hp → Prop} (q : rt v H) : Ends.rt ⟨nx, rt, bk, ct⟩ v H := q
theorem rd_bk {nx : L2.St → Hp → Prop} {rt : VK} {bk ct : L2.St → Hp → Prop} (q : bk σ H) : Ends.bk ⟨nx, rt, bk, ct⟩ σ H := q
theorem rd_T {A B : Prop} (q : A) : if true = true then A else B := by rw [if_pos rfl]; exact q
theorem rd_F {A B : Prop} (q : B) : if false = true then A else B := by rw [if_neg Bool.false_ne_true]; exact q
theorem rd_nT {A B : Prop} (q : B) : if (!true) = true then A else B := by rw [if_neg (by decide)]; exact q
theorem rd_nF {A B : Prop} (q : A) : if (!false) = true then A else B := by rw [if_pos (by decide)]; exact q
theorem rd_dec {p A B : Prop} [Decidable p] (h1 : p → A) (h2 : ¬ p → B) : if decide p = true then A else B := by
  by_cases c : p
  · rw [if_pos (decide_eq_true c)]; exact h1 c
  · rw [if_neg (by rw [decide_eq_false c]; exact Bool.false_ne_true)]; exact h2 c
theorem rd_ndec {p A B : Prop} [Decidable p] (h1 : ¬ p → A) (h2 : p → B) : if (!decide p) = true then A else B := by
  by_cases c : p
  · rw [if_neg (by rw [decide_eq_true c]; decide)]; exact h2 c
  · rw [if_pos (by rw [decide_eq_false c]; rfl)]; exact h1 c
theorem rd_yes {p A B : Prop} [Decidable p] (c : p) (h : A) : if decide p = true then A else B := rd_dec (fun _ => h) (fun n => absurd c n)
theorem rd_no {p A B : Prop} [Decidable p] (c : ¬ p) (h : B) : if decide p = true then A else B := rd_dec (fun n => absurd n c) (fun _ => h)
theorem rd_nyes {p A B : Prop} [Decidable p] (c : p) (h : B) : if (!decide p) = true then A else B := rd_ndec (fun n => absurd c n) (fun _ => h)
theorem rd_nno {p A B : Prop} [Decidable p] (c : ¬ p) (h : A) : if (!decide p) = true then A else B := rd_ndec (fun _ => h) (fun n => absurd n c)
theorem rd_any {b : Bool} {A B : Prop} (h1 : b = true → A) (h2 : b = false → B) : if b = true then A else B := by
  cases b
  · exact rd_F (h2 rfl)
  · exact rd_T (h1 rfl)
/-! methods of lists -/
theorem rd_bm {T : String} {r : V → List V → Hp → VK → Prop} {t : TA} (q : te σ H fun x H1 => tyV K T x H1 ∧ t σ H1 fun xs H2 => r x xs H2 Q) : tBM K T r te t σ H Q := q
theorem rd_bm0 {T : String} {r : V → List V → Hp → VK → Prop} (q : te σ H fun x H1 => tyV K T x H1 ∧ r x [] H1 Q) : tBM0 K T r te σ H Q := q
theorem rd_tyL {B : Prop} (h : SqL K H p xs) (q : B) : tyV K "list" (.ref p) H ∧ B := ⟨.inl ⟨rfl, _, h⟩, q⟩
theorem rd_app {l : Addr} (h : H l = some (.lst xs)) (hl : xs.length < sizeLine) (q : Q .non (upd H l (.lst (xs ++ [v])))) : rAppend (.ref l) [v] H Q := ⟨l, xs, v, rfl, rfl, h, hl, q⟩
/-! loops -/
/-- what a for asks of the iterator that came -/
abbrev ForOf (g : TG) (t : TS) (D : Ends) (σ : L2.St) (J : It) (H : Hp) : Prop := ∃ W : Nat → Nat → L2.St → Hp → Prop, (∃ m, W 0 m σ H) ∧ ∀ i m σ H, W i m σ H →
  (J.stop i H ∧ D.nx σ H) ∨ (J.go i H ∧ ∃ N : L2.St → Hp → Prop, (∀ σ' H', N σ' H' → ∃ m', m' < m ∧ W (i + 1) m' σ' H') ∧ ∀ x H', J.yld i H x H' → g x σ H' fun σ2 H2 => t { D with nx := N, ct := N, bk := D.nx } σ2 H2)
theorem rd_for {wi : TI} {g : TG} (q : wi σ H (ForOf g t D σ)) : tFor wi g t D σ H := q
theorem rd_rng1 {tl : TA} {R : It → Hp → Prop} (q : tl σ H fun vs H1 => ∃ j : Int, vs = [.int j] ∧ -(2 ^ 62) ≤ j ∧ j < 2 ^ 62 ∧ R (Itr 0 j.toNat) H1) : iRng1 tl σ H R := q
theorem rd_rng2 {tl : TA} {R : It → Hp → Prop} (q : tl σ H fun vs H1 => ∃ i j : Int, vs = [.int i, .int j] ∧ (-(2 ^ 62) ≤ i ∧ i < 2 ^ 62 ∧ -(2 ^ 62) ≤ j ∧ j < 2 ^ 62) ∧ R (Itr i (j - i).toNat) H1) : iRng2 tl σ H R := q
theorem rd_revR {tr : L2.St → Hp → (Int → Int → Hp → Prop) → Prop} {R : It → Hp → Prop} (q : tr σ H fun a b H1 => -(2 ^ 62) ≤ a ∧ a < 2 ^ 62 ∧ -(2 ^ 62) ≤ b ∧ b < 2 ^ 62 ∧ R (Itc (a + (((b - a).toNat : Nat) : Int) - 1) (-1) (b - a).toNat) H1) : iRevR tr σ H R := q
theorem rd_rg1 {R : Int → Int → Hp → Prop} (q : te σ H fun x H1 => ∃ n, x = .int n ∧ R 0 n H1) : tRg1 te σ H R := q
theorem rd_rg2 {R : Int → Int → Hp → Prop} (q : ta σ H fun x H1 => tb σ H1 fun y H2 => ∃ i j, x = .int i ∧ y = .int j ∧ R i j H2) : tRg2 ta tb σ H R := q
theorem rd_iList {tl : TE} {R : It → Hp → Prop} (q : tl σ H fun x H1 => ∃ a, x = .ref a ∧ (∃ xs, SqL K H1 a xs) ∧ R (Itl K a) H1) : iList K tl σ H R := q
theorem rd_ref {B : Addr → Prop} (q : B a) : ∃ p, V.ref a = V.ref p ∧ B p := ⟨a, rfl, q⟩
theorem rd_int {B : Int → Prop} (q : B i) : ∃ n, V.int i = V.int n ∧ B n := ⟨i, rfl, q⟩
theorem rd_while {c : TT} (q : ∃ W : Nat → L2.St → Hp → Prop, (∃ m, W m σ H) ∧ ∀ m σ H, W m σ H →
    c σ H fun b H1 => if b = true then ∃ N : L2.St → Hp → Prop, (∀ σ' H', N σ' H' → ∃ m', m' < m ∧ W m' σ' H') ∧ t { D with nx := N, ct := N, bk := D.nx } σ H1 else D.nx σ H1) : tWhile c t D σ H := q
theorem rd_forL {g : TG} (h : SqL K H a xs) (q : ∃ W : Nat → Nat → L2.St → Hp → Prop, (∃ m, W 0 m σ H) ∧ ∀ i m σ H, W i m σ H →
    ((Itl K a).stop i H ∧ D.nx σ H) ∨ ((Itl K a).go i H ∧ ∃ N : L2.St → Hp → Prop, (∀ σ' H', N σ' H' → ∃ m', m' < m ∧ W (i + 1) m' σ' H') ∧ ∀ x H', (Itl K a).yld i H x H' → g x σ H' fun σ2 H2 => t { D with nx := N, ct := N, bk := D.nx } σ2 H2))
    {n : Nat} (hv : σ[n]? = some (some (.ref a))) : tFor (iList K (tVar n)) g t D σ H := ⟨_, hv, a, rfl, ⟨_, h⟩, q⟩
end
/-! ### lists by places -/
theorem at_nat {α : Type} {xs : List α} {k : Nat} {v : α} (h : xs[k]? = some v) : atI xs (k : Int) = some v := atI_nat h
theorem at_int {α : Type} {xs : List α} {i : Int} {v : α} (h0 : 0 ≤ i) (h : xs[i.toNat]? = some v) : atI xs i = some v := by
  obtain ⟨k, rfl⟩ := Int.eq_ofNat_of_zero_le h0
  exact atI_nat (by simpa using h)
theorem at_mapN {α β : Type} {f : α → β} {xs : List α} {k : Nat} (h : k < xs.length) : atI (xs.map f) (k : Int) = some (f xs[k]) := atI_nat (by
  rw [List.getElem?_map, List.getElem?_eq_getElem h]
  rfl)
theorem at_map {α β : Type} {f : α → β} {xs : List α} {i : Int} (h0 : 0 ≤ i) (h : i.toNat < xs.length) : atI (xs.map f) i = some (f xs[i.toNat]) := at_int h0 (by
  rw [List.getElem?_map, List.getElem?_eq_getElem h]
  rfl)
end Pk
namespace Pk
open PySem PySem.Spec PyProof.Rows L2
theorem units65 {k : Nat} {A : Around} (r : Room k A) : A.units + 65 < cLine := Nat.lt_of_le_of_lt (by omega) r.un
end Pk
namespace Pk
open PySem PySem.Spec PyProof.Rows L2
/-! ### the rules with the written part told (within a comprehension's block no reading may hang on the block) -/
section
variable (K : PySem.W.Frag) {X : Cx} {a b e o : Expr} {es : List Expr} {ta tb te tl : TE} {t : TA} {pos apos cpos : Pos} {f : Str}
theorem ixL (h : X.K = K := by rfl) : IxR X (rIxL K) := by subst h; exact ix_list
theorem ixT (h : X.K = K := by rfl) : IxR X (rIxT K) := by subst h; exact ix_tup
/-- len of a list or tuple -/
def rLen : List V → Hp → VK → Prop := fun xs H Q => ∃ p ys, xs = [.ref p] ∧ (SqL K H p ys ∨ SqT K H p ys) ∧ Q (.int ys.length) H
theorem lenK (h : X.K = K := by rfl) : CallR X (.builtin "len") (rLen K) := by subst h; exact call_len_seq
theorem inSq (h : X.K = K := by rfl) : OpR X (compareOp .In) (rIn K false) := by subst h; exact op_in_seq
theorem ninSq (h : X.K = K := by rfl) : OpR X (compareOp .NotIn) (rIn K true) := by subst h; exact op_notIn_seq
theorem eqDK (hu : X.A.units + 64 < cLine) (h : X.K = K := by rfl) : OpR X (compareOp .Eq) (rEqD K) := by subst h; exact op_eqD hu
theorem neDK (hu : X.A.units + 64 < cLine) (h : X.K = K := by rfl) : OpR X (compareOp .NotEq) (rNeD K) := by subst h; exact op_neD hu
theorem inDK (hu : X.A.units + 65 < cLine) (h : X.K = K := by rfl) : OpR X (compareOp .In) (rInD K) := by subst h; exact op_inD hu
theorem ninDK (hu : X.A.units + 65 < cLine) (h : X.K = K := by rfl) : OpR X (compareOp .NotIn) (rNotInD K) := by subst h; exact op_notInD hu
theorem slL (h : X.K = K := by rfl) : SlR X (rSlL K) := by subst h; exact sl_list
theorem slT (h : X.K = K := by rfl) : SlR X (rSlT K) := by subst h; exact sl_tup
theorem fldK (he : PE X e ta) (hb : attributeBase e f X.env (eval e X.env) = eval e X.env) (h : X.K = K := by rfl) : PE X (.Attribute e f pos) (tFld K ta f) := by subst h; exact pe_fld he hb
theorem piL {tg : Expr} (he : PE X e ta) (h : X.K = K := by rfl) : PI X tg e (iList K ta) := by subst h; exact pi_list he
theorem piT {tg : Expr} (he : PE X e ta) (h : X.K = K := by rfl) : PI X tg e (iTup K ta) := by subst h; exact pi_tup he
/-- list(x) of a list or tuple -/
def rListOf : List V → Hp → VK → Prop := fun xs H Q => ∃ p ys, xs = [.ref p] ∧ (SqL K H p ys ∨ SqT K H p ys) ∧ ∀ l, H l = none → Q (.ref l) (upd H l (.lst ys))
theorem listOf (h : X.K = K := by rfl) : CallR X (.type "list") (rListOf K) := by subst h; exact call_list_of
theorem rd_rlen {H : Hp} {Q : VK} {p : Addr} {xs : List V} (h : SqL K H p xs) (q : Q (.int xs.length) H) : rLen K [.ref p] H Q := ⟨p, xs, rfl, .inl h, q⟩
theorem rd_rlenT {H : Hp} {Q : VK} {p : Addr} {xs : List V} (h : SqT K H p xs) (q : Q (.int xs.length) H) : rLen K [.ref p] H Q := ⟨p, xs, rfl, .inr h, q⟩
theorem rd_rlist {H : Hp} {Q : VK} {p : Addr} {xs : List V} (h : SqL K H p xs) (q : ∀ l, H l = none → Q (.ref l) (upd H l (.lst xs))) : rListOf K [.ref p] H Q := ⟨p, xs, rfl, .inl h, q⟩
theorem isiK (h : X.K = K := by rfl) : CallR X (.builtin "isinstance") (rIsi K) := by subst h; exact call_isi
end
end Pk
namespace Pk
open PySem
theorem bt_len : bootBuiltins "len" = some (.builtin "len") := by decide +kernel
theorem bt_max : bootBuiltins "max" = some (.builtin "max") := by decide +kernel
theorem bt_sorted : bootBuiltins "sorted" = some (.builtin "sorted") := by decide +kernel
theorem bt_isinstance : bootBuiltins "isinstance" = some (.builtin "isinstance") := by decide +kernel
theorem bt_list : bootBuiltins "list" = some (.type "list") := by decide +kernel
theorem bt_int : bootBuiltins "int" = some (.type "int") := by decide +kernel
theorem bt_str : bootBuiltins "str" = some (.type "str") := by decide +kernel
theorem bt_bool : bootBuiltins "bool" = some (.type "bool") := by decide +kernel
theorem bt_tuple : bootBuiltins "tuple" = some (.type "tuple") := by decide +kernel
theorem bt_dict : bootBuiltins "dict" = some (.type "dict") := by decide +kernel
theorem bt_ValueError : bootBuiltins "ValueError" = some (.type "ValueError") := by decide +kernel
end Pk
namespace Pk
open PySem PySem.Spec PyProof.Rows L2
/-! ### list comprehensions -/
/-- what a comprehension asks of the iterator that came -/
abbrev LcOf (g : TG) (tt : TT) (te : TE) (vs : List Nat) (σ : L2.St) (Q : VK) (J : It) (H1 : Hp) : Prop := ∀ D, H1 D = none → ∃ W : Nat → Nat → Hp → Prop, (∃ m, W 0 m (upd H1 D (.lst []))) ∧ ∀ i m H, W i m H →
  (J.stop i H ∧ Q (.ref D) H) ∨ (J.go i H ∧ ∃ Nx : Hp → Prop, (∀ H', Nx H' → ∃ m', m' < m ∧ W (i + 1) m' H') ∧ ∀ x H', J.yld i H x H' → g x (wipe σ vs) H' fun σ2 H2 => wipe σ2 vs = wipe σ vs ∧ tt σ2 H2 fun b H3 =>
    if b = true then te σ2 H3 fun y H4 => ∃ acc, H4 D = some (.lst acc) ∧ acc.length < sizeLine ∧ Nx (upd H4 D (.lst (acc ++ [y]))) else Nx H3)
section
variable {σ : L2.St} {H : Hp} {Q : VK} {K : PySem.W.Frag} {te : TE} {vs : List Nat}
theorem rd_lc {wi : TI} {g : TG} {tt : TT} (q : wi σ H (LcOf g tt te vs σ Q)) : tLc wi g tt te vs σ H Q := q
theorem rd_tyes {Q : Bool → Hp → Prop} (q : Q true H) : tYes σ H Q := q
theorem upd_ne_eq {H : Hp} {D a : Addr} {o : HO} (h : a ≠ D) : upd H D o a = H a := upd_ne h
/-- over a range, no test, an element that lays nothing -/
theorem lcR {lo : Int} {n k : Nat} (v : Nat → V) (hn : n ≤ 100000) (hw : ∀ x, wipe ((wipe σ vs).set k (some x)) vs = wipe σ vs)
    (el : ∀ i, i < n → ∀ (H' : Hp) (Q' : VK), Ex H H' → Q' (v i) H' → te ((wipe σ vs).set k (some (.int (lo + (i : Int))))) H' Q')
    (q : ∀ D, H D = none → Q (.ref D) (upd H D (.lst ((List.range n).map v)))) : LcOf (gName k) tYes te vs σ Q (Itr lo n) H := by
  intro D hD
  refine lc_range (lo := lo) (n := n) (fun i H' => H' = upd H D (.lst ((List.range i).map v))) rfl ?_ ?_
  · rintro i H' hi rfl
    refine ⟨hw _, rd_tyes (rd_T (el i hi _ _ (Ex.new hD) ⟨_, upd_same, ?_, ?_⟩))⟩
    · rw [List.length_map, List.length_range]
      exact line_lt (by omega)
    · rw [upd_upd, List.range_succ, List.map_append]
      rfl
  · rintro H' rfl
    exact q D hD
/-- over a range, no test, an element that may lay things -/
theorem lcRx {lo : Int} {n k : Nat} (P : V → Prop) (hn : n ≤ 100000) (hw : ∀ x, wipe ((wipe σ vs).set k (some x)) vs = wipe σ vs)
    (el : ∀ i, i < n → ∀ (H' : Hp) (Q' : VK), Ex H H' → (∀ v H2, Ex H' H2 → P v → Q' v H2) → te ((wipe σ vs).set k (some (.int (lo + (i : Int))))) H' Q')
    (q : ∀ D ws H', H D = none → Ex H H' → H' D = some (.lst ws) → ws.length = n → (∀ v ∈ ws, P v) → Q (.ref D) H') : LcOf (gName k) tYes te vs σ Q (Itr lo n) H := by
  intro D hD
  refine lc_range (lo := lo) (n := n) (fun i H' => Ex H H' ∧ ∃ ws, H' D = some (.lst ws) ∧ ws.length = i ∧ ∀ v ∈ ws, P v) ⟨Ex.new hD, [], upd_same, rfl, fun v hv => absurd hv List.not_mem_nil⟩ ?_ ?_
  · rintro i H' hi ⟨e, ws, hl, hlen, hp⟩
    refine ⟨hw _, rd_tyes (rd_T (el i hi _ _ e fun v H2 e2 pv => ?_))⟩
    refine ⟨ws, e2 _ _ hl, line_lt (by omega), (e.trans e2).mut hD, ws ++ [v], upd_same, by rw [List.length_append, hlen]; rfl, fun x hx => ?_⟩
    rcases List.mem_append.mp hx with hx | hx
    · exact hp x hx
    · rw [List.mem_singleton] at hx
      rw [hx]
      exact pv
  · rintro H' ⟨e, ws, hl, hlen, hp⟩
    exact q D ws H' hD e hl hlen hp
/-- over a list that stands, no test, an element that lays nothing -/
theorem lcL {a : Addr} {xs : List V} {k : Nat} (v : Nat → V) (hS : SqL K H a xs) (hn : xs.length ≤ 100000) (hw : ∀ x, wipe ((wipe σ vs).set k (some x)) vs = wipe σ vs)
    (el : ∀ i x, xs[i]? = some x → ∀ (H' : Hp) (Q' : VK), Ex H H' → Q' (v i) H' → te ((wipe σ vs).set k (some x)) H' Q')
    (q : ∀ D, H D = none → Q (.ref D) (upd H D (.lst ((List.range xs.length).map v)))) : LcOf (gName k) tYes te vs σ Q (Itl K a) H := by
  intro D hD
  refine lc_list (K := K) (a := a) (xs := xs) (fun i H' => H' = upd H D (.lst ((List.range i).map v))) rfl ?_ ?_ ?_
  · rintro i H' hi rfl
    exact (Ex.new hD).seqL hS
  · rintro i x H' hx rfl
    have hi : i < xs.length := (List.getElem?_eq_some_iff.mp hx).1
    refine ⟨hw _, rd_tyes (rd_T (el i x hx _ _ (Ex.new hD) ⟨_, upd_same, ?_, ?_⟩))⟩
    · rw [List.length_map, List.length_range]
      exact line_lt (by omega)
    · rw [upd_upd, List.range_succ, List.map_append]
      rfl
  · rintro H' rfl
    exact q D hD
end
end Pk
namespace Pk
open PySem PySem.Spec PyProof.Rows L2
/-! ### dicts -/
section
variable {σ : L2.St} {H : Hp} {Q : VK} {D : Ends} {td ty tv tx te : TE} {a b : Addr} {v : V} {k : Key} {ks : List Key} {kvs : List (Key × V)} {kvt : List (List Key × V)}
theorem rd_dput (q : tv σ H fun v H1 => td σ H1 fun x H2 => ty σ H2 fun y H3 => ∃ a H4, x = .ref a ∧ DPut H3 a y v H4 ∧ D.nx σ H4) : sDPut td ty tv D σ H := q
theorem rd_dget (q : td σ H fun x H1 => ty σ H1 fun y H2 => ∃ a v, x = .ref a ∧ DGet H2 a y (some v) ∧ Q v H2) : tDGet td ty σ H Q := q
theorem rd_dget2 (q : td σ H fun x H1 => ∃ a, x = .ref a ∧ IsD H1 a ∧ ty σ H1 fun y H2 => tx σ H2 fun z H3 => ∃ o, DGet H3 a y o ∧ Q (o.getD z) H3) : tDGet2 td ty tx σ H Q := q
theorem rd_din (q : ty σ H fun y H1 => td σ H1 fun x H2 => ∃ a o, x = .ref a ∧ DGet H2 a y o ∧ Q (.bl o.isSome) H2) : tDIn ty td σ H Q := q
theorem rd_dnotin (q : ty σ H fun y H1 => td σ H1 fun x H2 => ∃ a o, x = .ref a ∧ DGet H2 a y o ∧ Q (.bl (!o.isSome)) H2) : tDNotIn ty td σ H Q := q
theorem rd_dnewK (q : ∀ p, H p = none → Q (.ref p) (upd H p (.dK []))) : tDNewK σ H Q := q
theorem rd_dnewT (q : ∀ p, H p = none → Q (.ref p) (upd H p (.dT []))) : tDNewT σ H Q := q
theorem dgetT {ks : List Key} (e : H a = some (.dT kvt)) (eb : H b = some (.tup (ks.map kV))) (h : valV kvt ks = some v) : DGet H a (.ref b) (some v) := by
  rw [← h]
  exact DGet.t e eb
theorem dgetK (e : H a = some (.dK kvs)) (h : valV kvs k = some v) : DGet H a (kV k) (some v) := by
  rw [← h]
  exact DGet.k e
theorem rd_opt1 {B : Addr → V → Prop} (q : B a v) : ∃ p x, V.ref a = V.ref p ∧ B p x := ⟨a, v, rfl, q⟩
end
end Pk
namespace Pk
open PySem PySem.Spec PyProof.Rows L2
/-- a text that may be compared -/
def TOk (s : Str) : Prop := PySem.PyData.canLay0 (.str s) = true
theorem tok_of {s : Str} (h : ∀ c ∈ s.cps.toList, c < 0x110000) : TOk s := by
  unfold TOk
  rw [PyData.canLay0]
  show s.cps.all (fun x => decide (x < 0x110000)) = true
  rw [← Array.all_toList]
  exact List.all_eq_true.mpr fun c hc => decide_eq_true (h c hc)
theorem joinL_nil : ∀ ps : List (List Nat), TL.joinL [] ps = ps.flatten
  | [] => rfl
  | [p] => by simp [TL.joinL]
  | p :: q :: r => by
    show p ++ ([] ++ TL.joinL [] (q :: r)) = _
    rw [joinL_nil (q :: r)]
    simp
/-- single signs, joined -/
theorem join_signs (cs : List Nat) : (Txt.join "" (cs.map fun c => (⟨#[c]⟩ : Str))).cps.toList = cs := by
  rw [TL.join_eq]
  have z := TL.tl_join "" (cs.map fun c => (⟨#[c]⟩ : Str))
  have e : TL.tl "" = [] := rfl
  rw [e, joinL_nil, List.map_map] at z
  have z2 : (Str.join "" (cs.map fun c => (⟨#[c]⟩ : Str))).cps.toList = (cs.map (TL.tl ∘ fun c => (⟨#[c]⟩ : Str))).flatten := z
  rw [z2]
  induction cs with
  | nil => rfl
  | cons c r ih =>
    rw [List.map_cons, List.flatten_cons]
    have y : (TL.tl ∘ fun c => (⟨#[c]⟩ : Str)) c = [c] := rfl
    rw [y, ih]
    · rfl
    · exact (TL.tl_join "" _).trans (by rw [e, joinL_nil, List.map_map])
    · exact (TL.tl_join "" _).trans (by rw [e, joinL_nil, List.map_map])
theorem join_signs_len (cs : List Nat) : (Txt.join "" (cs.map fun c => (⟨#[c]⟩ : Str))).length = cs.length := by
  rw [TL.len_tl]
  exact congrArg List.length (join_signs cs)
/-- one sign of a text that is read -/
theorem rd_ixS {z : Str} {i : Int} {c : Nat} {H : Hp} {Q : VK} (hz : z.length ≤ sizeLine) (h : atI z.cps.toList i = some c) (q : Q (.str ⟨#[c]⟩) H) : rIxS (.str z) (.int i) H Q := ⟨z, i, c, rfl, rfl, hz, h, q⟩
theorem rd_m1 {σ : L2.St} {H : Hp} {Q : VK} {to te : TE} {r : V → List V → Hp → VK → Prop} (q : to σ H fun x H1 => (∃ a, x = .str a) ∧ te σ H1 fun y H2 => r x [y] H2 Q) : tM1 r to te σ H Q := q
theorem rd_isS {z : Str} {B : Prop} (q : B) : (∃ a, V.str z = V.str a) ∧ B := ⟨⟨z, rfl⟩, q⟩
theorem joinK (K : PySem.W.Frag) {X : Cx} {o e : Expr} {to te : TE} {apos pos : Pos} (ho : PE X o to) (he : PE X e te) (h : X.K = K := by rfl) (hs : starEach [e] X.env = [(false, eval e X.env)] := by rfl)
    (hbase : attributeBase o "join" X.env (eval o X.env) = eval o X.env := by rfl) (hline : (apos.endLine == pos.line) = true := by rfl) :
    PE X (.Call (.Attribute o "join" apos) [e] [] pos) (tM1 (fun x xs H Q => ∃ a p, ∃ ys : List Str, x = .str a ∧ xs = [.ref p] ∧ (SqL K H p (ys.map V.str) ∨ SqT K H p (ys.map V.str)) ∧
      (ys.map (·.length)).sum + ys.length * a.length ≤ 16777216 ∧ Q (.str (Txt.join a ys)) H) to te) := by
  subst h
  exact pe_join ho he hs hbase hline
/-- the signs of a drawn text -/
def signs : Str := Str.ofString " !#$&()*+,-./0123456789:;<=>?@ABCDEFGHIJKLMNOPQRSTUVWXYZ[]^_abcdefghijklmnopqrstuvwxyz{|}~"
theorem signs_len : signs.length = 90 := by decide +kernel
theorem signs_low : signs.cps.toList.all (fun c => decide (c < 128)) = true := by decide +kernel
theorem signs_at {i : Int} (h0 : 0 ≤ i) (h : i < 90) : ∃ c, atI signs.cps.toList i = some c ∧ c < 128 := by
  have hl : i.toNat < signs.cps.toList.length := by
    have := signs_len
    rw [TL.len_tl] at this
    have e : signs.cps.toList.length = 90 := this
    rw [e]
    omega
  refine ⟨_, at_int h0 (List.getElem?_eq_getElem hl), ?_⟩
  exact of_decide_eq_true (List.all_eq_true.mp signs_low _ (List.getElem_mem hl))
theorem rd_div {i j : Int} {g : Int → Int → V} {H : Hp} {Q : VK} (h : 0 < j ∧ j < 1073741824) (q : Q (g i j) H) : rI CDiv g (.int i) (.int j) H Q := rd_I (C := CDiv) h q
theorem rd_mod {i j : Int} {g : Int → Int → V} {H : Hp} {Q : VK} (h : 0 < j) (q : Q (g i j) H) : rI (fun _ j => 0 < j) g (.int i) (.int j) H Q := rd_I (C := fun _ j => 0 < j) h q
theorem rd_mul {i j : Int} {g : Int → Int → V} {H : Hp} {Q : VK} (h : (-(2 ^ 64) < i ∧ i < 2 ^ 64) ∨ (-(2 ^ 64) < j ∧ j < 2 ^ 64)) (q : Q (g i j) H) : rI CMul g (.int i) (.int j) H Q := rd_I (C := CMul) h q
end Pk
namespace Pk
/-! ### the longest common row of two lists, and the greedy pairs -/
section
variable {α : Type} [DecidableEq α]
def lcs : List α → List α → Nat
  | [], _ => 0
  | _ :: _, [] => 0
  | a :: as, b :: bs => max (max (lcs as (b :: bs)) (lcs (a :: as) bs)) (if a = b then 1 + lcs as bs else 0)
termination_by xs ys => xs.length + ys.length
def Lc (xs ys : List α) (i j : Nat) : Nat := lcs (xs.drop i) (ys.drop j)
theorem lcs_nil_left (ys : List α) : lcs [] ys = 0 := by unfold lcs; rfl
theorem lcs_nil_right (xs : List α) : lcs xs [] = 0 := by
  cases xs with
  | nil => unfold lcs; rfl
  | cons a as => unfold lcs; rfl
theorem lcs_cons (a b : α) (as bs : List α) : lcs (a :: as) (b :: bs) = max (max (lcs as (b :: bs)) (lcs (a :: as) bs)) (if a = b then 1 + lcs as bs else 0) := by
  rw [lcs]
theorem lcs_ge : ∀ (as bs s : List α), s.Sublist as → s.Sublist bs → s.length ≤ lcs as bs
  | [], bs, s, h1, h2 => by
    have e : s = [] := List.sublist_nil.mp h1
    subst e
    exact Nat.zero_le _
  | a :: as, [], s, h1, h2 => by
    have e : s = [] := List.sublist_nil.mp h2
    subst e
    exact Nat.zero_le _
  | a :: as, b :: bs, [], h1, h2 => Nat.zero_le _
  | a :: as, b :: bs, x :: s, h1, h2 => by
    rw [lcs_cons]
    by_cases ha : (x :: s).Sublist as
    · have z := lcs_ge as (b :: bs) (x :: s) ha h2
      omega
    · by_cases hb : (x :: s).Sublist bs
      · have z := lcs_ge (a :: as) bs (x :: s) h1 hb
        omega
      · have e1 : x = a ∧ s.Sublist as := by
          cases h1 with
          | cons _ h => exact absurd h ha
          | cons_cons _ h => exact ⟨rfl, h⟩
        have e2 : x = b ∧ s.Sublist bs := by
          cases h2 with
          | cons _ h => exact absurd h hb
          | cons_cons _ h => exact ⟨rfl, h⟩
        have z := lcs_ge as bs s e1.2 e2.2
        have e : a = b := e1.1.symm.trans e2.1
        rw [if_pos e, List.length_cons]
        omega
termination_by as bs => as.length + bs.length
theorem lcs_ex : ∀ (as bs : List α), ∃ s : List α, s.Sublist as ∧ s.Sublist bs ∧ s.length = lcs as bs
  | [], bs => ⟨[], List.Sublist.refl _, List.nil_sublist _, by rw [lcs_nil_left]; rfl⟩
  | a :: as, [] => ⟨[], List.nil_sublist _, List.Sublist.refl _, by rw [lcs_nil_right]; rfl⟩
  | a :: as, b :: bs => by
    obtain ⟨s1, p1, q1, e1⟩ := lcs_ex as (b :: bs)
    obtain ⟨s2, p2, q2, e2⟩ := lcs_ex (a :: as) bs
    obtain ⟨s3, p3, q3, e3⟩ := lcs_ex as bs
    rw [lcs_cons]
    by_cases e : a = b
    · rw [if_pos e]
      by_cases c1 : max (lcs as (b :: bs)) (lcs (a :: as) bs) ≤ 1 + lcs as bs
      · refine ⟨a :: s3, List.Sublist.cons_cons a p3, ?_, ?_⟩
        · rw [e]; exact List.Sublist.cons_cons b q3
        · rw [List.length_cons, e3]; omega
      · by_cases c2 : lcs as (b :: bs) ≤ lcs (a :: as) bs
        · exact ⟨s2, p2, q2.cons b, by omega⟩
        · exact ⟨s1, p1.cons a, q1, by omega⟩
    · rw [if_neg e]
      by_cases c2 : lcs as (b :: bs) ≤ lcs (a :: as) bs
      · exact ⟨s2, p2, q2.cons b, by omega⟩
      · exact ⟨s1, p1.cons a, q1, by omega⟩
termination_by as bs => as.length + bs.length
theorem lcs_reverse (as bs : List α) : lcs as.reverse bs.reverse = lcs as bs := by
  apply Nat.le_antisymm
  · obtain ⟨s, h1, h2, e⟩ := lcs_ex as.reverse bs.reverse
    have z := lcs_ge as bs s.reverse (by simpa using h1.reverse) (by simpa using h2.reverse)
    rw [List.length_reverse] at z
    omega
  · obtain ⟨s, h1, h2, e⟩ := lcs_ex as bs
    have z := lcs_ge as.reverse bs.reverse s.reverse h1.reverse h2.reverse
    rw [List.length_reverse] at z
    omega
variable {xs ys : List α}
theorem Lc_left {i j : Nat} (h : xs.length ≤ i) : Lc xs ys i j = 0 := by
  unfold Lc
  rw [List.drop_eq_nil_of_le h, lcs_nil_left]
theorem Lc_right {i j : Nat} (h : ys.length ≤ j) : Lc xs ys i j = 0 := by
  unfold Lc
  rw [List.drop_eq_nil_of_le h, lcs_nil_right]
theorem Lc_step {i j : Nat} (hi : i < xs.length) (hj : j < ys.length) :
    Lc xs ys i j = max (max (Lc xs ys (i + 1) j) (Lc xs ys i (j + 1))) (if xs[i] = ys[j] then 1 + Lc xs ys (i + 1) (j + 1) else 0) := by
  unfold Lc
  rw [List.drop_eq_getElem_cons hi, List.drop_eq_getElem_cons hj, lcs_cons]
theorem Lc_mono {i j k l : Nat} (h1 : i ≤ k) (h2 : j ≤ l) : Lc xs ys k l ≤ Lc xs ys i j := by
  unfold Lc
  obtain ⟨s, p, q, e⟩ := lcs_ex (xs.drop k) (ys.drop l)
  have d1 : (xs.drop k).Sublist (xs.drop i) := by
    obtain ⟨m, rfl⟩ := Nat.exists_eq_add_of_le h1
    rw [← List.drop_drop]
    exact List.drop_sublist _ _
  have d2 : (ys.drop l).Sublist (ys.drop j) := by
    obtain ⟨m, rfl⟩ := Nat.exists_eq_add_of_le h2
    rw [← List.drop_drop]
    exact List.drop_sublist _ _
  have z := lcs_ge _ _ s (p.trans d1) (q.trans d2)
  omega
/-- (i, j) begins as many pairs from (l, r) on as can be -/
def Hit (xs ys : List α) (l r i j : Nat) : Prop := l ≤ i ∧ r ≤ j ∧ i < xs.length ∧ j < ys.length ∧ xs[i]? = ys[j]? ∧ 1 + Lc xs ys (i + 1) (j + 1) = Lc xs ys l r
/-- the first of these, or none -/
def IsNext (xs ys : List α) (l r : Nat) : Option (Nat × Nat) → Prop
  | none => ∀ i j, ¬ Hit xs ys l r i j
  | some p => Hit xs ys l r p.1 p.2 ∧ ∀ i j, Hit xs ys l r i j → p.1 < i ∨ (p.1 = i ∧ p.2 ≤ j)
theorem Hit_ex : ∀ (n l r : Nat), xs.length - l + (ys.length - r) = n → 0 < Lc xs ys l r → ∃ i j, Hit xs ys l r i j := by
  intro n
  induction n with
  | zero =>
    intro l r e h
    rw [Lc_left (by omega)] at h
    omega
  | succ n ih =>
    intro l r e h
    by_cases hl : xs.length ≤ l
    · rw [Lc_left hl] at h
      omega
    · by_cases hr : ys.length ≤ r
      · rw [Lc_right hr] at h
        omega
      · have hl' : l < xs.length := by omega
        have hr' : r < ys.length := by omega
        have st := Lc_step (xs := xs) (ys := ys) hl' hr'
        by_cases c1 : Lc xs ys l r = Lc xs ys (l + 1) r
        · obtain ⟨i, j, h1, h2, h3, h4, h5, h6⟩ := ih (l + 1) r (by omega) (by omega)
          exact ⟨i, j, by omega, h2, h3, h4, h5, by omega⟩
        · by_cases c2 : Lc xs ys l r = Lc xs ys l (r + 1)
          · obtain ⟨i, j, h1, h2, h3, h4, h5, h6⟩ := ih l (r + 1) (by omega) (by omega)
            exact ⟨i, j, h1, by omega, h3, h4, h5, by omega⟩
          · by_cases q : xs[l] = ys[r]
            · rw [if_pos q] at st
              refine ⟨l, r, Nat.le_refl _, Nat.le_refl _, hl', hr', ?_, by omega⟩
              rw [List.getElem?_eq_getElem hl', List.getElem?_eq_getElem hr', q]
            · rw [if_neg q] at st
              omega
theorem IsNext.none_zero {l r : Nat} (h : IsNext xs ys l r none) : Lc xs ys l r = 0 := by
  rcases Nat.eq_zero_or_pos (Lc xs ys l r) with e | e
  · exact e
  · obtain ⟨i, j, q⟩ := Hit_ex _ l r rfl e
    exact absurd q (h i j)
theorem IsNext.some_eq {l r i j : Nat} (h : IsNext xs ys l r (some (i, j))) : 1 + Lc xs ys (i + 1) (j + 1) = Lc xs ys l r := h.1.2.2.2.2.2
theorem IsNext.unique {l r : Nat} {o o' : Option (Nat × Nat)} (h : IsNext xs ys l r o) (h' : IsNext xs ys l r o') : o = o' := by
  cases o with
  | none =>
    cases o' with
    | none => rfl
    | some p => exact absurd h'.1 (h p.1 p.2)
  | some p =>
    cases o' with
    | none => exact absurd h.1 (h' p.1 p.2)
    | some q =>
      obtain ⟨p1, p2⟩ := p
      obtain ⟨q1, q2⟩ := q
      have a := h.2 _ _ h'.1
      have b := h'.2 _ _ h.1
      simp only at a b
      have e1 : p1 = q1 := by omega
      have e2 : p2 = q2 := by omega
      rw [e1, e2]
/-- the greedy pairs from (l, r) on -/
inductive Kept (xs ys : List α) : Nat → Nat → List (Nat × Nat) → Prop
  | nil {l r : Nat} : IsNext xs ys l r none → Kept xs ys l r []
  | cons {l r i j : Nat} {t : List (Nat × Nat)} : IsNext xs ys l r (some (i, j)) → Kept xs ys (i + 1) (j + 1) t → Kept xs ys l r ((i, j) :: t)
theorem Kept.length {l r : Nat} {f : List (Nat × Nat)} (h : Kept xs ys l r f) : f.length = Lc xs ys l r := by
  induction h with
  | nil h => rw [h.none_zero]; rfl
  | cons h _ ih => rw [List.length_cons, ih]; have := h.some_eq; omega
theorem Kept.unique {l r : Nat} {f g : List (Nat × Nat)} (h : Kept xs ys l r f) (h' : Kept xs ys l r g) : f = g := by
  induction h generalizing g with
  | nil h =>
    cases h' with
    | nil _ => rfl
    | cons q _ => exact nomatch h.unique q
  | cons h _ ih =>
    cases h' with
    | nil q => exact nomatch h.unique q
    | cons q s =>
      have e := h.unique q
      cases e
      rw [ih s]
/-- from the k-th pair on -/
theorem Kept.drop {l r : Nat} {f : List (Nat × Nat)} (h : Kept xs ys l r f) : ∀ {k : Nat} {p : Nat × Nat}, f[k]? = some p →
    ∃ l' r', IsNext xs ys l' r' (some p) ∧ Lc xs ys l' r' = f.length - k ∧ l ≤ l' ∧ r ≤ r' ∧ (k = 0 → l' = l ∧ r' = r) ∧ (∀ q, 0 < k → f[k - 1]? = some q → l' = q.1 + 1 ∧ r' = q.2 + 1) := by
  induction h with
  | nil h => intro k p e; simp at e
  | cons h s ih =>
    rename_i l r i j t
    intro k p e
    cases k with
    | zero =>
      simp only [List.getElem?_cons_zero, Option.some.injEq] at e
      subst e
      refine ⟨l, r, h, ?_, Nat.le_refl _, Nat.le_refl _, fun _ => ⟨rfl, rfl⟩, fun q hq => absurd hq (by omega)⟩
      rw [List.length_cons, s.length]
      have := h.some_eq
      omega
    | succ k =>
      rw [List.getElem?_cons_succ] at e
      obtain ⟨l', r', h1, h2, h3, h4, h5, h6⟩ := ih e
      have hh := h.1
      obtain ⟨a1, a2, _⟩ := hh
      simp only at a1 a2
      refine ⟨l', r', h1, by rw [List.length_cons]; omega, by omega, by omega, fun z => absurd z (by omega), fun q _ hq => ?_⟩
      cases k with
      | zero =>
        simp only [Nat.zero_add, Nat.sub_self, List.getElem?_cons_zero, Option.some.injEq] at hq
        subst hq
        exact h5 rfl
      | succ k =>
        have z : k + 1 + 1 - 1 = (k + 1 - 1) + 1 := by omega
        rw [z, List.getElem?_cons_succ] at hq
        exact h6 q (by omega) hq
end
end Pk
namespace Pk
section
variable {α : Type} [DecidableEq α] (xs ys : List α)
/-- the longest common row of the first t and the first k -/
def Pre (t k : Nat) : Nat := lcs (xs.take t).reverse (ys.take k).reverse
theorem Pre_zero_left (k : Nat) : Pre xs ys 0 k = 0 := by
  unfold Pre
  rw [List.take_zero, List.reverse_nil, lcs_nil_left]
theorem Pre_zero_right (t : Nat) : Pre xs ys t 0 = 0 := by
  unfold Pre
  rw [List.take_zero, List.reverse_nil, lcs_nil_right]
theorem take_succ_rev {α : Type} {l : List α} {t : Nat} (h : t < l.length) : (l.take (t + 1)).reverse = l[t] :: (l.take t).reverse := by
  rw [List.take_succ_eq_append_getElem h, List.reverse_append]
  rfl
theorem Pre_step {t k : Nat} (ht : t < xs.length) (hk : k < ys.length) :
    Pre xs ys (t + 1) (k + 1) = max (max (Pre xs ys t (k + 1)) (Pre xs ys (t + 1) k)) (if xs[t] = ys[k] then 1 + Pre xs ys t k else 0) := by
  unfold Pre
  rw [take_succ_rev ht, take_succ_rev hk, lcs_cons]
theorem Pre_end : Pre xs ys xs.length ys.length = Lc xs ys 0 0 := by
  unfold Pre Lc
  rw [List.take_length, List.take_length, lcs_reverse, List.drop_zero, List.drop_zero]
end
end Pk
namespace Pk
open PySem PySem.Spec PyProof.Rows L2
/-- a list of lists of ints: n + 1 rows of m + 1, f i j at (i, j) -/
structure Tab (H : Hp) (r : Addr) (rs : List Addr) (n m : Nat) (f : Nat → Nat → Nat) : Prop where
  top : H r = some (.lst (rs.map V.ref))
  len : rs.length = n + 1
  nd : rs.Nodup
  row : ∀ i, (h : i < rs.length) → H rs[i] = some (.lst ((List.range (m + 1)).map fun j => V.int (f i j : Nat)))
theorem Tab.ex {H H1 : Hp} {r : Addr} {rs : List Addr} {n m : Nat} {f : Nat → Nat → Nat} (t : Tab H r rs n m f) (e : Ex H H1) : Tab H1 r rs n m f :=
  ⟨e _ _ t.top, t.len, t.nd, fun i h => e _ _ (t.row i h)⟩
/-- the row at i, its item at j -/
theorem Tab.get1 {H : Hp} {r : Addr} {rs : List Addr} {n m : Nat} {f : Nat → Nat → Nat} (t : Tab H r rs n m f) {i : Nat} (hi : i ≤ n) :
    ∃ a, atI (rs.map V.ref) (i : Int) = some (.ref a) ∧ rs[i]? = some a ∧ H a = some (.lst ((List.range (m + 1)).map fun j => V.int (f i j : Nat))) := by
  have h : i < rs.length := by rw [t.len]; omega
  exact ⟨rs[i], at_mapN h, List.getElem?_eq_getElem h, t.row i h⟩
theorem Tab.get2 {m i j : Nat} {f : Nat → Nat → Nat} (hj : j ≤ m) : atI ((List.range (m + 1)).map fun j => V.int (f i j : Nat)) (j : Int) = some (.int (f i j : Nat)) := by
  have h : j < (List.range (m + 1)).length := by rw [List.length_range]; omega
  have z := at_mapN (f := fun j => V.int (f i j : Nat)) h
  rw [List.getElem_range] at z
  exact z
theorem Tab.put {H : Hp} {r : Addr} {rs : List Addr} {n m : Nat} {f : Nat → Nat → Nat} (t : Tab H r rs n m f) {i j v : Nat} {a : Addr} (ha : rs[i]? = some a) :
    Tab (upd H a (.lst (((List.range (m + 1)).map fun j => V.int (f i j : Nat)).set j (.int (v : Nat))))) r rs n m (fun i' j' => if i' = i ∧ j' = j then v else f i' j') := by
  have hi : i < rs.length := (List.getElem?_eq_some_iff.mp ha).1
  have ea : rs[i] = a := (List.getElem?_eq_some_iff.mp ha).2
  have hra : r ≠ a := by
    have q := t.row i hi
    rw [ea] at q
    refine ne_of t.top q fun z => ?_
    have z1 := HO.lst.inj z
    have z2 : rs.map V.ref ≠ [] := by
      intro w
      rw [List.map_eq_nil_iff] at w
      rw [w] at hi
      exact absurd hi (by simp)
    cases rs with
    | nil => exact z2 rfl
    | cons b bs =>
      rw [List.map_cons, List.range_succ_eq_map, List.map_cons] at z1
      cases (List.cons.inj z1).1
  refine ⟨by rw [upd_ne hra]; exact t.top, t.len, t.nd, fun k hk => ?_⟩
  by_cases c : k = i
  · subst c
    rw [ea, upd_same]
    congr 2
    apply List.ext_getElem
    · simp
    · intro l h1 h2
      rw [List.getElem_set]
      simp only [List.getElem_map, List.getElem_range, true_and]
      by_cases d : j = l
      · subst d
        simp
      · rw [if_neg d, if_neg (fun w => d w.symm)]
  · have hne : rs[k] ≠ a := by
      rw [← ea]
      intro w
      exact c ((List.getElem_inj t.nd).mp w)
    rw [upd_ne hne]
    have q := t.row k hk
    rw [q]
    congr 2
    apply List.map_congr_left
    intro l _
    rw [if_neg (fun w => c w.1)]
end Pk
namespace Pk
open PySem PySem.Spec PyProof.Rows L2
/-- a row of pairs of numbers, each a tuple -/
structure Prs (H : Hp) (ts : List Addr) (fs : List (Nat × Nat)) : Prop where
  len : ts.length = fs.length
  at_ : ∀ (k i j : Nat), fs[k]? = some (i, j) → ∃ t, ts[k]? = some t ∧ H t = some (.tup [.int (i : Int), .int (j : Int)])
theorem Prs.nil {H : Hp} : Prs H [] [] := ⟨rfl, fun k i j h => by simp at h⟩
theorem Prs.ex {H H1 : Hp} {ts : List Addr} {fs : List (Nat × Nat)} (p : Prs H ts fs) (e : Ex H H1) : Prs H1 ts fs :=
  ⟨p.len, fun k i j h => let ⟨t, a, b⟩ := p.at_ k i j h; ⟨t, a, e _ _ b⟩⟩
/-- where one object that is no tuple changes -/
theorem Prs.upd {H : Hp} {ts : List Addr} {fs : List (Nat × Nat)} {q : Addr} {xs : List V} {o : HO} (p : Prs H ts fs) (h : H q = some (.lst xs)) : Prs (upd H q o) ts fs :=
  ⟨p.len, fun k i j g => by
    obtain ⟨t, a, b⟩ := p.at_ k i j g
    exact ⟨t, a, by rw [upd_ne (ne_of b h (by intro z; cases z))]; exact b⟩⟩
theorem Prs.snoc {H : Hp} {ts : List Addr} {fs : List (Nat × Nat)} {t : Addr} {i j : Nat} (p : Prs H ts fs) (h : H t = some (.tup [.int (i : Int), .int (j : Int)])) : Prs H (ts ++ [t]) (fs ++ [(i, j)]) := by
  refine ⟨by rw [List.length_append, List.length_append, p.len]; rfl, fun k a b g => ?_⟩
  by_cases c : k < fs.length
  · rw [List.getElem?_append_left c] at g
    obtain ⟨t', a', b'⟩ := p.at_ k a b g
    exact ⟨t', by rw [List.getElem?_append_left (by rw [p.len]; exact c)]; exact a', b'⟩
  · have hk : k < (fs ++ [(i, j)]).length := (List.getElem?_eq_some_iff.mp g).1
    have ek : k = fs.length := by
      rw [List.length_append] at hk
      simp at hk
      omega
    subst ek
    rw [List.getElem?_append_right (Nat.le_refl _)] at g
    simp only [Nat.sub_self, List.getElem?_cons_zero, Option.some.injEq, Prod.mk.injEq] at g
    refine ⟨t, ?_, ?_⟩
    · rw [List.getElem?_append_right (by rw [p.len]; exact Nat.le_refl _), p.len]
      simp
    · rw [← g.1, ← g.2]
      exact h
/-- None or a pair -/
def PairV (H : Hp) : V → Option (Nat × Nat) → Prop
  | v, none => v = .non
  | v, some p => ∃ t, v = .ref t ∧ H t = some (.tup [.int (p.1 : Int), .int (p.2 : Int)])
theorem PairV.ex {H H1 : Hp} {v : V} {o : Option (Nat × Nat)} (p : PairV H v o) (e : Ex H H1) : PairV H1 v o := by
  cases o with
  | none => exact p
  | some q =>
    obtain ⟨t, a, b⟩ := p
    exact ⟨t, a, e _ _ b⟩
end Pk
namespace Pk
open PySem PySem.Spec PyProof.Rows L2
/-- the key (i, j) -/
def kk (i j : Nat) : List Key := [Sum.inl (i : Int), Sum.inl (j : Int)]
theorem kk_tup (i j : Nat) : (kk i j).map kV = [V.int (i : Int), V.int (j : Int)] := rfl
theorem kk_inj {i j k l : Nat} (h : kk i j = kk k l) : i = k ∧ j = l := by
  unfold kk at h
  injection h with h1 h2
  injection h2 with h2 _
  have a := Sum.inl.inj h1
  have b := Sum.inl.inj h2
  exact ⟨by omega, by omega⟩
/-- a dict with pairs of numbers as keys: f i j at the pairs that are done -/
structure Grid (kvs : List (List Key × V)) (d : Nat → Nat → Prop) (f : Nat → Nat → Nat) : Prop where
  yes : ∀ i j, d i j → valV kvs (kk i j) = some (.int (f i j : Nat))
  no : ∀ i j, ¬ d i j → valV kvs (kk i j) = none
theorem Grid.nil {f : Nat → Nat → Nat} : Grid [] (fun _ _ => False) f := ⟨fun _ _ h => h.elim, fun _ _ _ => valV_nil⟩
theorem Grid.put {kvs : List (List Key × V)} {d : Nat → Nat → Prop} {f : Nat → Nat → Nat} (g : Grid kvs d f) (i j v : Nat) :
    Grid (putK kvs (kk i j) (.int (v : Nat))) (fun i' j' => (i' = i ∧ j' = j) ∨ d i' j') (fun i' j' => if i' = i ∧ j' = j then v else f i' j') := by
  refine ⟨fun i' j' h => ?_, fun i' j' h => ?_⟩
  · rw [valV_put]
    by_cases c : i' = i ∧ j' = j
    · rw [if_pos (by rw [c.1, c.2]), if_pos c]
    · rw [if_neg (fun z => c (kk_inj z)), if_neg c]
      exact g.yes i' j' (h.resolve_left c)
  · rw [valV_put, if_neg (fun z => h (.inl (kk_inj z)))]
    exact g.no i' j' fun z => h (.inr z)
theorem Grid.same {kvs : List (List Key × V)} {d d' : Nat → Nat → Prop} {f f' : Nat → Nat → Nat} (g : Grid kvs d f) (h : ∀ i j, d i j ↔ d' i j) (e : ∀ i j, d' i j → f i j = f' i j) : Grid kvs d' f' :=
  ⟨fun i j q => by rw [← e i j q]; exact g.yes i j ((h i j).mpr q), fun i j q => g.no i j fun z => q ((h i j).mp z)⟩
theorem Grid.get0 {kvs : List (List Key × V)} {d : Nat → Nat → Prop} {f : Nat → Nat → Nat} (g : Grid kvs d f) {i j v : Nat} (h1 : d i j → f i j = v) (h2 : ¬ d i j → v = 0) : (valV kvs (kk i j)).getD (.int 0) = .int (v : Nat) := by
  by_cases c : d i j
  · rw [g.yes i j c, h1 c]
    rfl
  · rw [g.no i j c, h2 c]
    rfl
end Pk
namespace Pk
open PySem PySem.Spec PyProof.Rows L2
section
variable {σ : L2.St} {H : Hp} {Q : VK} {K : PySem.W.Frag} {te : TE} {tl th : TO} {a b : Addr} {x y : V} {xs zs : List V} {lo hi : Option Int}
theorem rd_sl {r : V → Option Int → Option Int → Hp → VK → Prop} (q : te σ H fun x H1 => tl σ H1 fun lo H2 => th σ H2 fun hi H3 => r x lo hi H3 Q) : tSl r te tl th σ H Q := q
theorem rd_part {Q : Option Int → Hp → Prop} (q : te σ H fun x H1 => ∃ i, x = .int i ∧ Q (some i) H1) : tPart te σ H Q := q
theorem rd_nopart {Q : Option Int → Hp → Prop} (q : Q none H) : tNoPart σ H Q := q
theorem rd_slL (h : SqL K H a xs) (q : ∀ p, H p = none → Q (.ref p) (upd H p (.lst (cutV xs lo hi)))) : rSlL K (.ref a) lo hi H Q := ⟨a, xs, rfl, h, q⟩
theorem rd_cat (h1 : H a = some (.lst xs)) (h2 : H b = some (.lst zs)) (h : xs.length + zs.length ≤ sizeLine) (q : ∀ p, H p = none → Q (.ref p) (upd H p (.lst (xs ++ zs)))) : rCat (.ref a) (.ref b) H Q :=
  ⟨a, b, xs, zs, rfl, rfl, h1, h2, h, q⟩
theorem cut_to {α : Type} (f : α → V) (xs : List α) (k : Nat) : cutV (xs.map f) none (some (k : Int)) = (xs.take k).map f := by
  unfold cutV
  rw [HT.sIx_none, HT.sIx_nat, List.drop_zero, Nat.sub_zero, List.length_map, List.map_take]
  by_cases h : k ≤ xs.length
  · rw [Nat.min_eq_left h]
  · rw [Nat.min_eq_right (by omega), List.take_of_length_le (by rw [List.length_map]; omega), List.take_of_length_le (by rw [List.length_map]; omega)]
theorem cut_from {α : Type} (f : α → V) (xs : List α) (k : Nat) : cutV (xs.map f) (some (k : Int)) none = (xs.drop k).map f := by
  unfold cutV
  rw [HT.sIx_none, HT.sIx_nat, List.length_map, List.map_drop]
  by_cases h : k ≤ xs.length
  · rw [Nat.min_eq_left h, List.take_of_length_le]
    rw [List.length_drop, List.length_map]
    omega
  · rw [Nat.min_eq_right (by omega), List.drop_eq_nil_of_le (by rw [List.length_map]; omega), List.drop_eq_nil_of_le (by rw [List.length_map]; omega), List.take_nil]
theorem dp_strs : ∀ xs : List Str, DpAll K H (xs.map V.str) (xs.map PyData.str)
  | [] => .nil
  | x :: xs => .cons (.str x) (dp_strs xs)
theorem lay_strs : ∀ xs : List Str, (∀ t ∈ xs, TOk t) → PyData.canLayAll0 (xs.map PyData.str) = true
  | [], _ => by simp [PyData.canLayAll0]
  | x :: xs, h => by
    have h1 : PyData.canLay0 (.str x) = true := h x List.mem_cons_self
    have h2 := lay_strs xs fun t m => h t (List.mem_cons_of_mem _ m)
    rw [List.map_cons, PyData.canLayAll0, h1, h2]
    rfl
theorem depth_strs : ∀ xs : List Str, PyData.depthAll (xs.map PyData.str) ≤ 1
  | [] => by simp [PyData.depthAll]
  | x :: xs => by
    have h1 := depth_strs xs
    simp only [List.map_cons, PyData.depthAll, PyData.depth]
    omega
theorem shaped_of {d : PyData} (h1 : d.canLay0 = true) (h2 : d.depth ≤ 64) : SeqAt.shaped d = true := by
  show (d.canLay0 && decide (d.depth ≤ 64)) = true
  rw [h1, decide_eq_true h2]
  rfl
/-- a list of two lists of texts -/
theorem shaped_two {xs ys : List Str} (hx : ∀ t ∈ xs, TOk t) (hy : ∀ t ∈ ys, TOk t) : SeqAt.shaped (.list [.list (xs.map PyData.str), .list (ys.map PyData.str)]) = true := by
  have a := depth_strs xs
  have b := depth_strs ys
  refine shaped_of ?_ ?_
  · simp only [PyData.canLay0, PyData.canLayAll0, lay_strs xs hx, lay_strs ys hy]
    rfl
  · simp only [PyData.depth, PyData.depthAll]
    omega
/-- a pair of numbers, as data -/
def pD (z : Nat × Nat) : PyData := .tuple [.int (z.1 : Int), .int (z.2 : Int)]
theorem pDs_lay : ∀ zs : List (Nat × Nat), PyData.canLayAll0 (zs.map pD) = true
  | [] => by simp [PyData.canLayAll0]
  | z :: zs => by simp [PyData.canLayAll0, pD, PyData.canLay0, pDs_lay zs]
theorem pDs_depth : ∀ zs : List (Nat × Nat), PyData.depthAll (zs.map pD) ≤ 2
  | [] => by simp [PyData.depthAll]
  | z :: zs => by
    have h1 := pDs_depth zs
    simp only [List.map_cons, PyData.depthAll, pD, PyData.depth]
    omega
theorem pDs_shaped (zs : List (Nat × Nat)) : SeqAt.shaped (.list (zs.map pD)) = true := by
  have h1 := pDs_depth zs
  refine shaped_of ?_ ?_
  · simp only [PyData.canLay0]
    exact pDs_lay zs
  · simp only [PyData.depth]
    omega
theorem Prs.dps : ∀ {ts : List Addr} {fs : List (Nat × Nat)}, Prs H ts fs → DpAll K H (ts.map V.ref) (fs.map pD)
  | [], [], _ => .nil
  | [], _ :: _, p => absurd p.len (by simp)
  | _ :: _, [], p => absurd p.len (by simp)
  | t :: ts, (i, j) :: fs, p => by
    obtain ⟨t', h1, h2⟩ := p.at_ 0 i j rfl
    cases h1
    have pr : Prs H ts fs := ⟨by simpa using p.len, fun k a b g => p.at_ (k + 1) a b (by rw [List.getElem?_cons_succ]; exact g)⟩
    exact .cons (.tup (SqT.of h2) (.cons (.int _) (.cons (.int _) .nil))) pr.dps
theorem rd_eqSelf {d : PyData} (h1 : Dp K H x d) (h2 : Dp K H y d) (hs : SeqAt.shaped d = true) (q : Q (.bl true) H) : rEqD K x y H Q :=
  ⟨d, d, h1, h2, hs, hs, by rw [SeqAt.eqv_refl d (SeqAt.canLay_of_shaped hs)]; exact q⟩
theorem rd_neSelf {d : PyData} (h1 : Dp K H x d) (h2 : Dp K H y d) (hs : SeqAt.shaped d = true) (q : Q (.bl false) H) : rNeD K x y H Q :=
  ⟨d, d, h1, h2, hs, hs, by rw [SeqAt.eqv_refl d (SeqAt.canLay_of_shaped hs)]; exact q⟩
end
end Pk
namespace Pk
open PySem PySem.Spec PyProof.Rows L2
/-- where a list changes -/
theorem Prs.mutL {H H1 : Hp} {ts : List Addr} {fs : List (Nat × Nat)} {q : Addr} {xs : List V} (p : Prs H ts fs) (h : H q = some (.lst xs)) (m : ∀ a x, a ≠ q → H a = some x → H1 a = some x) : Prs H1 ts fs :=
  ⟨p.len, fun k i j g => by
    obtain ⟨t, a, b⟩ := p.at_ k i j g
    exact ⟨t, a, m _ _ (ne_of b h (by intro z; cases z)) b⟩⟩
end Pk
namespace Pk
open PySem PySem.Spec PyProof.Rows L2
/-! ### what is not reached -/
section
variable {X : Cx} {e : Expr} {b : List Stmt} {s : Stmt}
def tNev : TE := fun _ _ _ => False
def tNevT : TT := fun _ _ _ => False
def tNevS : TS := fun _ _ _ => False
theorem pe_never : PE X e tNev := ⟨fun _ _ _ _ _ _ z => False.elim z⟩
theorem pt_never : PT X e tNevT := ⟨fun _ _ _ _ _ _ z => False.elim z⟩
theorem ps_never : PS X s tNevS := ⟨fun _ _ _ _ _ _ z => False.elim z⟩
theorem pss_never : PSs X b tNevS := ⟨fun _ _ _ _ _ _ z => False.elim z⟩
end
section
variable {σ : L2.St} {H : Hp} {Q : VK} {D : Ends} {g : TG} {tb : TS} {tt : TT} {te : TE} {vs : List Nat} {J : It} {K : PySem.W.Frag}
/-- a loop without turns -/
theorem for_none (h : J.stop 0 H) (q : D.nx σ H) : ForOf g tb D σ J H := by
  refine ⟨fun i _ σ' H' => i = 0 ∧ σ' = σ ∧ H' = H, ⟨0, rfl, rfl, rfl⟩, ?_⟩
  rintro i m σ' H' ⟨rfl, rfl, rfl⟩
  exact .inl ⟨h, q⟩
theorem lc_none (h : ∀ p, H p = none → J.stop 0 (upd H p (.lst []))) (q : ∀ p, H p = none → Q (.ref p) (upd H p (.lst []))) : LcOf g tt te vs σ Q J H := by
  intro p hp
  refine ⟨fun i _ H' => i = 0 ∧ H' = upd H p (.lst []), ⟨0, rfl, rfl⟩, ?_⟩
  rintro i m H' ⟨rfl, rfl⟩
  exact .inl ⟨h p hp, q p hp⟩
theorem stopL {a : Addr} (h : SqL K H a []) : (Itl K a).stop 0 H := ⟨[], h, Nat.le_refl _⟩
theorem stopV {a : Addr} : (Itv K a ([] : List V).length).stop 0 H := Nat.le_refl 0
theorem stopK {d : Addr} {o : Obj} (h : H d = some (.frz o (.dK []))) : (Itk d o []).stop 0 H := ⟨h, Nat.le_refl 0⟩
/-- over the signs of a text -/
theorem for_strW {x : Str} (Pv : Nat → L2.St → Hp → Prop) (h0 : Pv 0 σ H)
    (hs : ∀ i c σ H, x.cps[i]? = some c → Pv i σ H → g (.str ⟨#[c]⟩) σ H fun σ2 H2 => tb { D with nx := Pv (i + 1), ct := Pv (i + 1), bk := D.nx } σ2 H2) (hd : ∀ σ H, Pv x.cps.size σ H → D.nx σ H) : ForOf g tb D σ (Its x) H := by
  refine ⟨fun i m σ' H' => m = x.cps.size - i ∧ i ≤ x.cps.size ∧ Pv i σ' H', ⟨x.cps.size, by simp, Nat.zero_le _, h0⟩, ?_⟩
  rintro i m σ' H' ⟨rfl, hi, p⟩
  by_cases c : i < x.cps.size
  · refine .inr ⟨c, Pv (i + 1), fun σ2 H2 z => ⟨x.cps.size - (i + 1), by omega, rfl, by omega, z⟩, ?_⟩
    rintro v H2 ⟨rfl, d, hd2, rfl⟩
    exact hs i d σ' H2 hd2 p
  · have e : i = x.cps.size := by omega
    subst e
    exact .inl ⟨Nat.le_refl _, hd _ _ p⟩
theorem upd_swap {p d : Addr} {o u : HO} (h : p ≠ d) : upd (upd H p o) d u = upd (upd H d u) p o := by
  funext x
  by_cases c1 : x = d
  · subst c1
    rw [upd_same, upd_ne (fun z => h z.symm), upd_same]
  · by_cases c2 : x = p
    · subst c2
      rw [upd_ne c1, upd_same, upd_same]
    · rw [upd_ne c1, upd_ne c2, upd_ne c2, upd_ne c1]
theorem upd_back {d : Addr} {u : HO} (h : H d = some u) : upd H d u = H := by
  funext x
  by_cases c : x = d
  · subst c
    rw [upd_same, h]
  · rw [upd_ne c]
/-- a comprehension over the keys of an empty dict -/
theorem lock_none {td : TE} {d : Addr} (hd : H d = some (.dK [])) (ht : ∀ (od : Obj) (Q' : VK), Q' (.ref d) (upd H d (.frz od (.dK []))) → td σ (upd H d (.frz od (.dK []))) Q')
    (q : ∀ p, H p = none → Q (.ref p) (upd H p (.lst []))) : tLockE (tLc (iKeys td) g tt te vs) σ H Q := by
  refine ⟨d, _, hd, ?_, fun od => rd_lc (ht od _ ⟨d, od, rfl, .inl ⟨[], upd_same, lc_none (fun p hp => ?_) fun p hp => ?_⟩⟩)⟩
  · trivial
  · have ne : d ≠ p := by
      rintro rfl
      rw [upd_same] at hp
      cases hp
    exact stopK (by rw [upd_ne ne, upd_same])
  · have ne : p ≠ d := by
      rintro rfl
      rw [upd_same] at hp
      cases hp
    refine ⟨by rw [upd_ne (fun z => ne z.symm), upd_same], ?_⟩
    rw [upd_swap ne, upd_upd, upd_back hd]
    rw [upd_ne ne] at hp
    exact q p hp
end
end Pk
namespace Pk
open PySem PySem.Spec PyProof.Rows L2 L2H HotX
/-! ### a def that is called while one exception, known in full, is handled -/
structure FnP (P : Program) (w : World) (K : PySem.W.Frag) (mg : Str → Option Value) (base : Heap) (C : CXT) (n : Nat) (g : Addr) (gd : FuncData) (qs : List Str) (sp : Sp) (pin : Addr × Obj) : Prop where
  len : ∀ vs H Q E, sp vs H Q E → vs.length = qs.length
  run : ∀ (B : Around) (fr : List Env) (s : Shared) (H : Hp) (ar : Args) (us : List Value) (vs : List V) (Q : VK) (E : XK), RoomH n B → Hot1 B pin → PinOk fr H s pin → Env0 P w K mg base B fr s H → BindsTo s gd ar (qs.zip us) → Vals vs us → sp vs H Q E →
    codeAny (model P w) B (.call (.ref g) ar) (CR C fr P w H s Q E) s
theorem FnP.of {P : Program} {w : World} {K : PySem.W.Frag} {mg : Str → Option Value} {base : Heap} {C : CXT} {n : Nat} {x ql : Str} {pr : Arguments} {bd : List Stmt} {sco : Scope} {dvs : List V} {kws : List (Str × V)} {g : Addr} {gd : FuncData} {N qs : List Str} {sp : Sp} {pin : Addr × Obj}
    (F : FunD K x ql pr bd sco dvs kws g gd) (S : FnScope N qs sco) (len : ∀ vs H Q E, sp vs H Q E → vs.length = qs.length)
    (hb : ∀ (cv : Value) (B : Around) (fr : List Env) (s : Shared) (H : Hp) (vs : List V) (Q : VK) (E : XK), Hot1 B pin → RoomH n (B.deeper (envOfC ql sco s.heap.objs.size g cv)) → sp vs H Q E →
      ∃ t, PSs (cxH C P w K mg base N ql sco g cv B fr s H E pin) bd t ∧ t { nx := fun _ H' => Q .non H', rt := Q } (L2.start N vs) H) : FnP P w K mg base C (n + 1) g gd qs sp pin := by
  obtain ⟨oc, od, dV, kV, doc, pm, an, cv, ct, osl, rfl, lk, hcd, _, _⟩ := F.ex
  refine ⟨len, fun B fr s H ar us vs Q E room hot hpin e0 bnd rv hsp => ?_⟩
  have vl := len _ _ _ _ hsp
  have inK : K.In s.heap := e0.mod.kin.keeps fun b o e => (e0.bs b o e).1
  have nl : s.heap.NoLimit := e0.mod.nolimit.keeps fun b o e => (e0.bs b o e).1
  have kinds : ∀ y ∈ qs.zip us, sco.names.lookup y.1 = some .local ∨ (sco.names.lookup y.1 = some .cell ∧ ((cellsFrom (s.heap.objs.size + 1) sco.names []).lookup y.1).isSome = true) := by
    rintro ⟨m, v⟩ hy
    rcases S.par m (List.of_mem_zip hy).1 with q | q
    · exact Or.inl q
    · exact Or.inr ⟨q, PySem.W.cellsFrom_some _ _ _ (Or.inl q)⟩
  refine codeAny_call_function room.depth (inK _ _ lk) rfl S.co S.gen rfl (PySem.W.codeRec_of inK hcd) (bnd _ _ _ _ ?_)
  refine wpAny_newFunctionEnv_cells S.kind kinds fun env henv s1 ic => ?_
  subst henv
  refine ⟨nl.keeps ic.toInCall.keep, codeAny_func ?_⟩
  obtain ⟨t, ht, hq⟩ := hb cv B fr s H vs Q E hot (room.deeper _) hsp
  have I := inv_startH (CX := C) (P := P) (w := w) (K := K) (mg := mg) (base := base) (E := E) S hpin e0 vl rv ic
  refine wpAny_mono (ht.run [] s1 (L2.start N vs) H _ I hq) (fun fl s' z => ?_) fun e s' z => z
  cases fl with
  | ret u =>
    obtain ⟨v, σ', H', J, ru, q⟩ := z
    exact ⟨v, H', J.os, J.bare, J.base, J.hok, ru, q⟩
  | next =>
    obtain ⟨σ', H', J, q⟩ := z
    exact ⟨V.non, H', J.os, J.bare, J.base, J.hok, rfl, q⟩
  | brk =>
    obtain ⟨_, _, _, q⟩ := z
    exact q.elim
  | cont =>
    obtain ⟨_, _, _, q⟩ := z
    exact q.elim
section
variable {X : Cx} {C : CXT} {n : Nat} {g Cl : Addr} {gd : FuncData} {qs : List Str} {sp : Sp} {E : L2.St → XK} {x m : Str} {pp pos apos : Pos} {e o : Expr} {es : List Expr} {ta : TE} {t : TA} {pin : Addr × Obj}
/-- such a call -/
theorem pe_callP (F : FnP X.prog X.w X.K X.mg X.base C n g gd qs sp pin) (room : RoomH n X.A) (hot : Hot1 X.A pin) (mem : pin ∈ X.pn) (hg : Gl X x) (hm : X.mg x = some (.ref g)) (hk : PySem.W.keepIn X.K (.ref g) = true) (hb : Binds X.K gd qs []) (hx : ∀ σ, PassesAt C X σ (E σ))
    (ha : PA X (e :: es) t) (hdb : (x == ("__debug__" : Str)) = false := by decide) (he : starEach (e :: es) X.env = (false, eval e X.env) :: starEach es X.env := by rfl) (hpl : (backTo pos (starEach es X.env)).any (·.1) = false := by rfl) :
    PE X (.Call (.Name x pp) (e :: es) [] pos) (tCallS sp E t) := by
  refine ⟨fun pins s σ H Q I h => wpAny_Call_Name_kw (ld_glob I hg hm ?_ hdb)⟩
  refine PySem.W.callWith_K (h₀ := X.base) I.ok.mod.kin hk (thn (ha.run pos pins s σ H _ I h) ?_) he hpl
  rintro us s1 ⟨vs, H1, I1, rv, q⟩
  refine ⟨I1.kIn, ?_⟩
  have ul : us.length = qs.length := by rw [← rv.length]; exact F.len _ _ _ _ q
  have bnd := hb s1 us I1.kIn (by rw [List.append_nil]; exact ul)
  rw [List.append_nil] at bnd
  have pk := I1.pin pin (List.mem_append_left _ mem)
  have pok : PinOk X.stack H1 s1 pin := ⟨pk.1, pk.2.1, fun z => (List.mem_cons.mp (I1.stkSub pin.1 z)).elim pk.2.2.1 pk.2.2.2.1, pk.2.2.2.2⟩
  refine wpAny_call (codeAny_mono (F.run X.A X.stack s1 H1 ⟨us, []⟩ us vs Q (E σ) room hot pok I1.env0 bnd rv q) fun r s2 z => ?_)
  cases r with
  | error u => exact hx σ pins H1 s1 u s2 I1 z
  | ok fl =>
    cases fl with
    | ret u => exact I1.after z
    | next => exact z.elim
    | brk => exact z.elim
    | cont => exact z.elim
/-- o.m(..) where the wish about exceptions goes by the slots -/
theorem pe_mAt {k : Nat} {f : Addr} {fd : FuncData} {ps : List Str} {pl : Sem Bool} (he : PE X o ta) (c : Cls X.K Cl) (hm : Meth X.K Cl m f) (F : FnOk X.prog X.w X.K X.mg X.base C k f fd ps sp) (hr : Room k X.A) (hb : Binds X.K fd ps []) (hx : ∀ σ, PassesAt C X σ (E σ)) (ha : PA X (e :: es) t)
    (hst : starEach (e :: es) X.env = (false, eval e X.env) :: starEach es X.env := by rfl) (hpl : (backTo pos (starEach es X.env)).any (·.1) = false := by rfl)
    (htr : eval (.Call (.Attribute o m apos) (e :: es) [] pos) X.env = (do let ov ← eval o X.env; standAt apos.atName; let (f, first) ← holding [ov] (getMethod ov m pl); callWith pos f first (backTo pos (starEach (e :: es) X.env)) (backToKw pos (keywordEach [] X.env))) := by rfl) :
    PE X (.Call (.Attribute o m apos) (e :: es) [] pos) (tMethH Cl m sp E ta t) := by
  refine ⟨fun pins s σ H Q I h => PySem.W.methodCall_KW (pl := pl) (thn (he.run pins s σ H _ I h) ?_) htr⟩
  rintro u s1 ⟨y, H1, I1, ry, a, dx, fs, ey, ea, lk, q⟩
  subst ey
  obtain rfl : u = Value.ref a := ry
  refine getmeth_ok I1 ea c hm lk (PySem.W.callWith_K (first := [.ref a]) (h₀ := X.base) I.ok.mod.kin hm.kp (thn (ha.run pos pins s1 σ H1 _ I1 q) ?_) hst hpl)
  rintro us s2 ⟨vs, H2, I2, rv, z⟩
  exact ⟨I2.kIn, run_fnS (us := .ref a :: us) (vs := .ref a :: vs) F hr hb (hx σ) I2 (.cons rfl rv) z⟩
theorem rd_methH {σ : L2.St} {H : Hp} {Q : VK} (q : ta σ H fun y H1 => ∃ a dx fs, y = .ref a ∧ H1 a = some (.ins Cl dx fs) ∧ fs.lookup m = none ∧ t σ H1 fun vs H2 => sp (y :: vs) H2 Q (E σ)) : tMethH Cl m sp E ta t σ H Q := q
theorem rd_callS {σ : L2.St} {H : Hp} {Q : VK} (q : t σ H fun vs H1 => sp vs H1 Q (E σ)) : tCallS sp E t σ H Q := q
/-- isinstance of the pinned exception -/
theorem isP {a D : Addr} {oe : Obj} (K : PySem.W.Frag) (hK : X.K = K) (hc : ExcC K D) (hz : Zc (.ref D) none oe) (hf : ∃ vs, oe.data = .fields vs) (hm : (a, oe) ∈ X.pn) : CallR X (.builtin "isinstance") (rIsE K D a) := by
  subst hK
  intro pins s σ H xs us Q I rv h
  obtain ⟨c, cv, b, rfl, hcv, ek, q⟩ := h
  cases rv with
  | cons rx rr =>
    cases rr with
    | cons rt rr =>
      cases rr
      cases rx
      have ec := hcv _ rt
      subst ec
      have hget := (I.pin (a, oe) (List.mem_append_left _ hm)).1
      obtain ⟨vs, hv⟩ := hf
      have J : PySem.W.InstAt s.heap a oe D none := by
        obtain ⟨oc, od, oda, osl⟩ := oe
        obtain ⟨h1, h2⟩ := hz
        dsimp only at h1 h2 hv
        subst h1 h2 hv
        exact ⟨hget, rfl, rfl, trivial⟩
      refine PySem.W.kia_one (PySem.W.handS_kitx_exc hc.hg hc.hk hc.hs hc.hd hc.ha hc.hn hc.ht hc.hm) I.kIn J ek (fun z => nomatch z) fun tk => ?_
      exact ⟨.bl b, H, I.kept (t' := tk) fun _ _ z => z, rfl, q⟩
theorem roomM {j n : Nat} {B : Around} {ho : Option Value} (z : Room n B) (hj : j ≤ n) : RoomH j (B.mark ho) := ⟨(z.mono hj).dp, (z.mono hj).un⟩
theorem takesN0 : L2N.Takes X (fun _ _ _ _ => False) := fun _ _ z => by
  obtain ⟨_, _, _, _, _, _, _, _, _, _, _, _, _, _, _, _, w⟩ := z
  exact w.elim
end
end Pk
namespace Pk
open PySem PySem.Spec PyProof.Rows L2
/-! ### a desk with stores and no patches -/
/-- the signs of names -/
def SG : Str := Str.ofString "abcdefghijklmnopqrstuvwxyz0123456789"
theorem SG_len : SG.length = 36 := by decide +kernel
theorem SG_low : SG.cps.toList.all (fun c => decide (c < 128)) = true := by decide +kernel
theorem SG_size : SG.cps.toList.length = 36 := by decide +kernel
theorem SG_at {i : Int} (h0 : 0 ≤ i) (h : i < 36) : ∃ c, atI SG.cps.toList i = some c ∧ c ∈ SG.cps.toList := by
  have hn : i.toNat < SG.cps.toList.length := by rw [SG_size]; omega
  exact ⟨SG.cps.toList[i.toNat], at_int h0 (List.getElem?_eq_getElem hn), List.getElem_mem hn⟩
/-- a good name -/
structure Good (s : Str) : Prop where
  lo : 1 ≤ s.length
  hi : s.length ≤ 12
  sg : ∀ c ∈ s.cps.toList, c ∈ SG.cps.toList
theorem Good.tok {s : Str} (g : Good s) : TOk s := tok_of fun c hc => by
  have z := List.all_eq_true.mp SG_low c (g.sg c hc)
  have := of_decide_eq_true z
  omega
structure DeskE (K : PySem.W.Frag) (H : Hp) (a m h : Addr) (kvs : List (Key × V)) (ns : List Str) : Prop where
  ins : ∃ dx, H a = some (.ins (He.ga K "Desk") dx [("made", .ref m), ("having", .ref h)])
  made : H m = some (.dK [])
  hav : H h = some (.dK kvs)
  keys : kvs.map (·.1) = ns.map Sum.inr
  vals : ∀ p ∈ kvs, ∃ b, p.2 = .ref b ∧ H b = some (.dK [])
  len : ns.length ≤ 1000
  dif : m ≠ h
section
variable {K : PySem.W.Frag} {H H' : Hp} {a m h q : Addr} {kvs : List (Key × V)} {ns : List Str} {xs : List V} {s : Str}
theorem DeskE.ex (d : DeskE K H a m h kvs ns) (e : Ex H H') : DeskE K H' a m h kvs ns := by
  obtain ⟨dx, hi⟩ := d.ins
  exact ⟨⟨dx, e _ _ hi⟩, e _ _ d.made, e _ _ d.hav, d.keys, fun p hp => by
    obtain ⟨b, e1, e2⟩ := d.vals p hp
    exact ⟨b, e1, e _ _ e2⟩, d.len, d.dif⟩
/-- where a list changes -/
theorem DeskE.mutL (d : DeskE K H a m h kvs ns) (hq : H q = some (.lst xs)) (e : ∀ b x, b ≠ q → H b = some x → H' b = some x) : DeskE K H' a m h kvs ns := by
  obtain ⟨dx, hi⟩ := d.ins
  have ne : ∀ {b : Addr} {o : HO}, H b = some o → (∀ ys, o ≠ .lst ys) → b ≠ q := by
    intro b o hb ho z
    rw [z, hq] at hb
    exact ho xs (Option.some.inj hb).symm
  exact ⟨⟨dx, e _ _ (ne hi (fun _ z => nomatch z)) hi⟩, e _ _ (ne d.made (fun _ z => nomatch z)) d.made, e _ _ (ne d.hav (fun _ z => nomatch z)) d.hav, d.keys, fun p hp => by
    obtain ⟨b, e1, e2⟩ := d.vals p hp
    exact ⟨b, e1, e _ _ (ne e2 (fun _ z => nomatch z)) e2⟩, d.len, d.dif⟩
theorem DeskE.klen (d : DeskE K H a m h kvs ns) : kvs.length = ns.length := by
  have z := congrArg List.length d.keys
  rw [List.length_map, List.length_map] at z
  exact z
theorem DeskE.names (d : DeskE K H a m h kvs ns) : kvs.map (fun kv => kV kv.1) = ns.map V.str := by
  have z := congrArg (List.map kV) d.keys
  rw [List.map_map, List.map_map] at z
  exact z
theorem DeskE.has (d : DeskE K H a m h kvs ns) (hs : s ∈ ns) : ∃ b, valV kvs (Sum.inr s) = some (.ref b) ∧ H b = some (.dK []) := by
  cases e : valV kvs (Sum.inr s : Key) with
  | none =>
    refine absurd ?_ (valV_not e)
    rw [d.keys]
    exact List.mem_map.mpr ⟨s, hs, rfl⟩
  | some v =>
    unfold valV at e
    cases f : kvs.find? fun kv => decide (kv.1 = (Sum.inr s : Key)) with
    | none =>
      rw [f] at e
      cases e
    | some p =>
      rw [f] at e
      cases e
      obtain ⟨b, e1, e2⟩ := d.vals p (List.mem_of_find?_eq_some f)
      exact ⟨b, congrArg some e1, e2⟩
theorem DeskE.hasno (d : DeskE K H a m h kvs ns) (hs : s ∉ ns) : valV kvs (Sum.inr s) = none := by
  cases e : valV kvs (Sum.inr s : Key) with
  | none => rfl
  | some v =>
    have z := valV_in e
    rw [d.keys] at z
    obtain ⟨t, ht, et⟩ := List.mem_map.mp z
    cases et
    exact absurd ht hs
/-- a new store -/
theorem DeskE.begin {H1 : Hp} {b : Addr} (d : DeskE K H a m h kvs ns) (hs : s ∉ ns) (hl : ns.length < 1000) (e : Ex H H1) (hb : H1 b = some (.dK [])) (e2 : ∀ c x, c ≠ h → H1 c = some x → H' c = some x) (nb : b ≠ h) (hv : H' h = some (.dK (putK kvs (Sum.inr s) (.ref b)))) :
    DeskE K H' a m h (putK kvs (Sum.inr s) (.ref b)) (ns ++ [s]) := by
  have d1 := d.ex e
  obtain ⟨dx, hi⟩ := d1.ins
  have ne : ∀ {c : Addr} {o : HO}, H1 c = some o → o ≠ .dK kvs → c ≠ h := by
    intro c o hc ho z
    rw [z, d1.hav] at hc
    exact ho (Option.some.inj hc).symm
  refine ⟨⟨dx, e2 _ _ (ne hi (fun z => nomatch z)) hi⟩, e2 _ _ d1.dif d1.made, hv, ?_, ?_, by rw [List.length_append]; show ns.length + 1 ≤ 1000; omega, d1.dif⟩
  · rw [putK_new _ (d.hasno hs), List.map_append, List.map_append, d.keys]
    rfl
  · rw [putK_new _ (d.hasno hs)]
    intro p hp
    rcases List.mem_append.mp hp with hp | hp
    · obtain ⟨c, e3, e4⟩ := d1.vals p hp
      by_cases hc : c = h
      · subst hc
        have z := d1.hav
        rw [e4] at z
        cases z
        exact absurd hp List.not_mem_nil
      · exact ⟨c, e3, e2 _ _ hc e4⟩
    · rw [List.mem_singleton] at hp
      subst hp
      exact ⟨b, rfl, e2 _ _ nb hb⟩
end
end Pk
namespace Pk
open PySem PySem.Spec PyProof.Rows L2
/-! ### readings: iterators, fields, methods -/
section
variable {σ : L2.St} {H : Hp} {Q : VK} {K : PySem.W.Frag} {ta te : TE} {t : TA} {R : It → Hp → Prop} {a C dx : Addr} {fs : List (Str × V)} {f : Str} {v : V} {D : Ends}
theorem rd_rev (q : t σ H fun vs H1 => ∃ (a : Addr) (xs : List V), vs = [.ref a] ∧ SqL K H1 a xs ∧ R (Itv K a xs.length) H1) : iRev K t σ H R := q
theorem rd_iStr (q : te σ H fun v H1 => ∃ x, v = .str x ∧ R (Its x) H1) : iStr te σ H R := q
theorem rd_str1 {B : Str → Prop} {z : Str} (q : B z) : ∃ x, V.str z = V.str x ∧ B x := ⟨z, rfl, q⟩
theorem rd_fld (q : ta σ H fun x H1 => ∃ a C dx fs v, x = .ref a ∧ H1 a = some (.ins C dx fs) ∧ Cls K C ∧ NoAttr K C f ∧ fs.lookup f = some v ∧ Q v H1) : tFld K ta f σ H Q := q
theorem rd_fldA {B : V → Prop} (h : H a = some (.ins C dx fs)) (hc : Cls K C) (hn : NoAttr K C f) (hl : fs.lookup f = some v) (q : B v) : ∃ a' C dx fs v, V.ref a = .ref a' ∧ H a' = some (.ins C dx fs) ∧ Cls K C ∧ NoAttr K C f ∧ fs.lookup f = some v ∧ B v := ⟨a, C, dx, fs, v, rfl, h, hc, hn, hl, q⟩
theorem rd_sfld {tv : TE} (q : tv σ H fun y H1 => ta σ H1 fun x H2 => ∃ a C dx fs, x = .ref a ∧ H2 a = some (.ins C dx fs) ∧ Cls K C ∧ NoAttr K C f ∧ fs.length < 1000 ∧ D.nx σ (upd H2 a (.ins C dx (putF f y fs)))) : sFld K ta tv f D σ H := q
theorem rd_sfldA {B : Hp → Prop} {y : V} (h : H a = some (.ins C dx fs)) (hc : Cls K C) (hn : NoAttr K C f) (hl : fs.length < 1000) (q : B (upd H a (.ins C dx (putF f y fs)))) :
    ∃ a' C dx fs, V.ref a = .ref a' ∧ H a' = some (.ins C dx fs) ∧ Cls K C ∧ NoAttr K C f ∧ fs.length < 1000 ∧ B (upd H a' (.ins C dx (putF f y fs))) := ⟨a, C, dx, fs, rfl, h, hc, hn, hl, q⟩
theorem rd_meth {m : Str} {sp : Sp} {dvs : List V} {E : XK} (q : ta σ H fun x H1 => ∃ a dx fs, x = .ref a ∧ H1 a = some (.ins C dx fs) ∧ fs.lookup m = none ∧ t σ H1 fun vs H2 => sp (x :: (vs ++ dvs)) H2 Q E) : tMeth C m sp dvs E ta t σ H Q := q
theorem rd_ins {m : Str} {B : Prop} (h : H a = some (.ins C dx fs)) (hl : fs.lookup m = none) (q : B) : ∃ a' dx fs, V.ref a = .ref a' ∧ H a' = some (.ins C dx fs) ∧ fs.lookup m = none ∧ B := ⟨a, dx, fs, rfl, h, hl, q⟩
theorem rd_make {sp : Sp} {dvs : List V} {E : XK} (q : t σ H fun vs H1 => ∀ x dx, H1 x = none → H1 dx = none → dx ≠ x → sp (.ref x :: (vs ++ dvs)) (upd (upd H1 dx (.own x)) x (.ins C dx [])) (fun v H2 => v = .non ∧ Q (.ref x) H2) E) : tMake C sp dvs E t σ H Q := q
theorem rd_addS {i j : Str} (h : i.length + j.length ≤ sizeLine) (q : Q (.str (i ++ j)) H) : ∃ a b, V.str i = .str a ∧ V.str j = .str b ∧ a.length + b.length ≤ sizeLine ∧ Q (.str (a ++ b)) H := ⟨i, j, rfl, rfl, h, q⟩
theorem rd_slS {z : Str} {lo hi : Option Int} (hz : z.length ≤ sizeLine) (q : Q (.str (cutS z lo hi)) H) : rSlS (.str z) lo hi H Q := ⟨z, rfl, hz, q⟩
theorem rd_inS {c : Nat} {z : Str} {B : Bool → Prop} (q : B (decide (c ∈ z.cps.toList))) : ∃ (c' : Nat) (z' : Str), V.str ⟨#[c]⟩ = .str ⟨#[c']⟩ ∧ V.str z = .str z' ∧ B (decide (c' ∈ z'.cps.toList)) := ⟨c, z, rfl, rfl, q⟩
end
/-! ### texts -/
theorem str_app (s t : Str) : (s ++ t).cps.toList = s.cps.toList ++ t.cps.toList := by
  show (s.cps ++ t.cps).toList = _
  rw [Array.toList_append]
theorem str_len (s : Str) : s.cps.toList.length = s.length := Array.length_toList
theorem str_app_len (s t : Str) : (s ++ t).length = s.length + t.length := by
  rw [← str_len, str_app, List.length_append, str_len, str_len]
/-- name in names -/
theorem inV_names {s : Str} : ∀ ns : List Str, inV (.str s) (ns.map V.str) = decide (s ∈ ns)
  | [] => rfl
  | x :: ns => by
    have ih := inV_names (s := s) ns
    unfold inV at ih ⊢
    rw [List.map_cons, List.any_cons, ih]
    by_cases c : x = s
    · subst c
      have e : eqV (V.str x) (V.str x) = true := by show (x == x) = true; exact beq_self_eq_true x
      rw [e, Bool.true_or, decide_eq_true List.mem_cons_self]
    · have e : eqV (V.str x) (V.str s) = false := by show (x == s) = false; exact beq_eq_false_iff_ne.mpr c
      rw [e, Bool.false_or]
      by_cases d : s ∈ ns
      · rw [decide_eq_true d, decide_eq_true (List.mem_cons_of_mem _ d)]
      · rw [decide_eq_false d, decide_eq_false (fun z => by
          rcases List.mem_cons.mp z with z | z
          · exact c z.symm
          · exact d z)]
theorem flat_names (ns : List Str) : (ns.map V.str).all flatV = true := by
  rw [List.all_eq_true]
  intro v hv
  obtain ⟨s, _, rfl⟩ := List.mem_map.mp hv
  rfl
/-- lists of truth values -/
def dueL (n : Int) : List Bool := (List.range 9).map fun (j : Nat) => decide ((j : Int) = n) || decide ((j : Int) = 8)
section
variable {K : PySem.W.Frag} {H : Hp}
theorem dp_bls : ∀ xs : List Bool, DpAll K H (xs.map V.bl) (xs.map PyData.bool)
  | [] => .nil
  | x :: xs => .cons (.bl x) (dp_bls xs)
end
theorem shaped_strs {xs : List Str} (hx : ∀ t ∈ xs, TOk t) : SeqAt.shaped (.list (xs.map PyData.str)) = true := by
  have a := depth_strs xs
  refine shaped_of ?_ ?_
  · simp only [PyData.canLay0]
    exact lay_strs xs hx
  · simp only [PyData.depth]
    omega
theorem lay_bls : ∀ xs : List Bool, PyData.canLayAll0 (xs.map PyData.bool) = true
  | [] => by simp [PyData.canLayAll0]
  | x :: xs => by simp [PyData.canLayAll0, PyData.canLay0, lay_bls xs]
theorem depth_bls : ∀ xs : List Bool, PyData.depthAll (xs.map PyData.bool) ≤ 1
  | [] => by simp [PyData.depthAll]
  | x :: xs => by
    have h1 := depth_bls xs
    simp only [List.map_cons, PyData.depthAll, PyData.depth]
    omega
theorem shaped_bls (xs : List Bool) : SeqAt.shaped (.list (xs.map PyData.bool)) = true := by
  have a := depth_bls xs
  refine shaped_of ?_ ?_
  · simp only [PyData.canLay0]
    exact lay_bls xs
  · simp only [PyData.depth]
    omega
theorem passA0 {X : Cx} {σ : L2.St} {E : XK} : PassesAt CX0 X σ E := fun _ _ _ _ _ _ h => h.elim
theorem Ex.seqM {K : PySem.W.Frag} {H H1 : Hp} {a q : Addr} {xs : List V} {kvs : List (Key × V)} (hq : H q = some (.dK kvs)) (e : ∀ b x, b ≠ q → H b = some x → H1 b = some x) (h : H a = some (.lst xs)) : H1 a = some (.lst xs) :=
  e _ _ (by rintro rfl; rw [hq] at h; cases h) h
end Pk
local macro_rules | `(tactic| wtm_at "hs") => `(tactic| first
  | assumption
  | exact upd_same
  | exact L2.SqL.of upd_same
  | exact L2.SqL.of (by assumption)
  | (refine' Pk.keep_new (by assumption) ?rdz; (case rdz => wtm_at "hs"))
  | (refine' Pk.Ex.at (by assumption) ?rdz; (case rdz => wtm_at "hs"))
  | (refine' Pk.Ex.seqL (by assumption) ?rdz; (case rdz => wtm_at "hs"))
  | (refine' Pk.Ex.seqL (Pk.Ex.new (by assumption)) ?rdz; (case rdz => wtm_at "hs"))
  | (refine' L2.SqL.of ?rdz; (case rdz => wtm_at "hs")))
local macro_rules | `(tactic| wtm_at "go1") => `(tactic| first
  | ((with_reducible refine' Pk.rd_var ?rdh ?rdq); (case rdh => rfl))
  | (with_reducible refine Pk.rd_c ?_)
  | (with_reducible refine Pk.rd_op ?_)
  | (with_reducible refine Pk.rd_seq ?_)
  | (with_reducible refine Pk.rd_asg ?_)
  | (with_reducible refine Pk.rd_gname ?_)
  | (with_reducible refine Pk.rd_nx ?_)
  | (with_reducible refine Pk.rd_rt ?_)
  | (with_reducible refine Pk.rd_bk ?_)
  | (with_reducible refine Pk.rd_I0 ?_)
  | (with_reducible refine Pk.rd_cons ?_)
  | (with_reducible refine Pk.rd_nil ?_)
  | (with_reducible refine Pk.rd_cb ?_)
  | (with_reducible refine Pk.rd_ifs ?_)
  | (with_reducible refine Pk.rd_test ?_)
  | (with_reducible refine Pk.rd_bl ?_)
  | (with_reducible refine Pk.rd_B ?_)
  | (with_reducible refine Pk.rd_ret ?_)
  | (with_reducible refine Pk.rd_next ?_)
  | (with_reducible refine Pk.rd_drop ?_)
  | (with_reducible refine Pk.rd_call ?_)
  | (with_reducible refine Pk.rd_eqi ?_)
  | (with_reducible refine Pk.rd_nei ?_)
  | (with_reducible refine Pk.rd_eqs ?_)
  | (with_reducible refine Pk.rd_nes ?_)
  | (with_reducible refine Pk.rd_tand ?_)
  | (with_reducible refine Pk.rd_tor ?_)
  | (with_reducible refine Pk.rd_tnot ?_)
  | (with_reducible refine Pk.rd_andV ?_)
  | (with_reducible refine Pk.rd_orV ?_)
  | (with_reducible refine Pk.rd_notV ?_)
  | (with_reducible refine Pk.rd_ifx ?_)
  | (with_reducible refine Pk.rd_chain ?_)
  | (with_reducible refine Pk.rd_T ?_)
  | (with_reducible refine Pk.rd_F ?_)
  | (with_reducible refine Pk.rd_nT ?_)
  | (with_reducible refine Pk.rd_nF ?_)
  | (with_reducible refine Pk.rd_tup ?_)
  | (with_reducible refine Pk.rd_lst ?_)
  | (with_reducible refine Pk.rd_un ?_)
  | (with_reducible refine Pk.rd_U ?_)
  | (with_reducible refine Pk.rd_bm ?_)
  | (with_reducible refine Pk.rd_bm0 ?_)
  | (with_reducible refine Pk.rd_gsub ?_)
  | (with_reducible refine Pk.rd_int2 ?_)
  | (with_reducible refine Pk.rd_int1 ?_)
  | (with_reducible refine Pk.rd_brk ?_)
  | (with_reducible refine Pk.rd_retN ?_)
  | (with_reducible refine Pk.rd_for ?_)
  | (with_reducible refine Pk.rd_rng1 ?_)
  | (with_reducible refine Pk.rd_rng2 ?_)
  | (with_reducible refine Pk.rd_revR ?_)
  | (with_reducible refine Pk.rd_rg1 ?_)
  | (with_reducible refine Pk.rd_rg2 ?_)
  | (with_reducible refine Pk.rd_iList ?_)
  | (with_reducible refine Pk.rd_ref ?_)
  | (with_reducible refine Pk.rd_int ?_)
  | (with_reducible refine Pk.rd_isn ?_)
  | ((with_reducible refine' Pk.rd_mod ?rdh ?rdq); (case rdh => first | decide | omega))
  | ((with_reducible refine' Pk.rd_div ?rdh ?rdq); (case rdh => first | decide | omega))
  | ((with_reducible refine' Pk.rd_mul ?rdh ?rdq); (case rdh => first | exact Or.inl ⟨by decide, by decide⟩ | exact Or.inr ⟨by decide, by decide⟩ | omega))
  | (with_reducible refine Pk.rd_m1 ?_)
  | (with_reducible refine Pk.rd_isS ?_)
  | (with_reducible refine Pk.rd_dput ?_)
  | (with_reducible refine Pk.rd_dget ?_)
  | (with_reducible refine Pk.rd_dget2 ?_)
  | (with_reducible refine Pk.rd_din ?_)
  | (with_reducible refine Pk.rd_dnotin ?_)
  | (with_reducible refine Pk.rd_dnewK ?_)
  | (with_reducible refine Pk.rd_dnewT ?_)
  | (with_reducible refine Pk.rd_while ?_)
  | (with_reducible refine Pk.rd_lc ?_)
  | (with_reducible refine Pk.rd_tyes ?_)
  | (with_reducible refine Pk.rd_rev ?_)
  | (with_reducible refine Pk.rd_iStr ?_)
  | (with_reducible refine Pk.rd_str1 ?_)
  | (with_reducible refine Pk.rd_fld ?_)
  | (with_reducible refine Pk.rd_sfld ?_)
  | (with_reducible refine Pk.rd_meth ?_)
  | (with_reducible refine Pk.rd_methH ?_)
  | (with_reducible refine Pk.rd_callS ?_)
  | (with_reducible refine Pk.rd_make ?_)
  | (with_reducible refine Pk.rd_sl ?_)
  | (with_reducible refine Pk.rd_part ?_)
  | (with_reducible refine Pk.rd_nopart ?_)
  | ((with_reducible refine' Pk.rd_rlen _ ?rdh ?rdq); (case rdh => wtm_at "hs"))
  | ((with_reducible refine' Pk.rd_tyL ?rdh ?rdq); (case rdh => wtm_at "hs")))
local macro_rules | `(tactic| wtm_at "go") => `(tactic| (repeat wtm_at "go1"))
namespace PkB
open PySem PySem.Spec PyProof.Rows L2
def top (i : Nat) : Stmt := PySem.Challenge.pw_patchkin_k02_stores_begun.main.body.getD i (.Pass ⟨0, 0, 0, 0⟩)
abbrev s_wall : Stmt := top 0
abbrev s_live_of : Stmt := top 12
abbrev s_lines_of : Stmt := top 13
abbrev s_aheads : Stmt := top 14
abbrev s_standing : Stmt := top 15
abbrev s_may_come : Stmt := top 16
abbrev s_row_of : Stmt := top 17
abbrev s_look_at : Stmt := top 20
abbrev s_Desk_init__ : Stmt := inClass (top 21) 0
abbrev s_Desk_look_for : Stmt := inClass (top 21) 1
abbrev s_Desk_chosen : Stmt := inClass (top 21) 2
abbrev s_Desk_fresh : Stmt := inClass (top 21) 3
abbrev s_Desk_keep : Stmt := inClass (top 21) 4
abbrev s_Desk_begin : Stmt := inClass (top 21) 5
abbrev s_Desk_stores : Stmt := inClass (top 21) 6
abbrev s_Desk_patches : Stmt := inClass (top 21) 7
abbrev s_Desk_has : Stmt := inClass (top 21) 8
abbrev s_Desk_record : Stmt := inClass (top 21) 9
abbrev s_Desk_cut : Stmt := inClass (top 21) 10
abbrev s_Desk_back : Stmt := inClass (top 21) 11
abbrev s_Desk_take : Stmt := inClass (top 21) 12
abbrev s_Desk_drop : Stmt := inClass (top 21) 13
abbrev s_Desk_leans : Stmt := inClass (top 21) 14
abbrev s_Desk_told : Stmt := inClass (top 21) 15
abbrev s_Desk_files : Stmt := inClass (top 21) 16
abbrev s_Desk_row : Stmt := inClass (top 21) 17
abbrev s_Desk_quarrels : Stmt := inClass (top 21) 18
abbrev s_Desk_stay : Stmt := inClass (top 21) 19
abbrev s_law_cell_at : Stmt := top 23
abbrev s_law_name : Stmt := top 24
abbrev s_law_names_are : Stmt := top 25
abbrev s_law_which : Stmt := top 26
abbrev s_law_due : Stmt := top 27
abbrev s_law_asked : Stmt := top 28
abbrev s_law_odd_name : Stmt := top 29
abbrev s_law : Stmt := top 30
def exOne (K : PySem.W.Frag) (D C : Str) (b : Bool) : Bool := decide (PySem.W.kitOne K (.ref (He.ga K D)) (.ref (He.ga K C)) = some b)
def exVal (K : PySem.W.Frag) (D : Str) : Bool := decide (PySem.W.kitOne K (.ref (He.ga K D)) (.type "ValueError") = some true)
def exCls (K : PySem.W.Frag) (D : Str) : Bool :=
  decide (PySem.W.findIn K (.ref (He.ga K D)) "__getattribute__" = some (some (.builtin "BaseException.__getattribute__"))) && (decide (PySem.W.findIn K (.ref (He.ga K D)) "__getattr__" = some none) &&
  (decide (PySem.W.subIn K (.ref (He.ga K D)) (.type "BaseException") = some true) && (PySem.W.hasDictIn K (He.ga K D) && (decide (PySem.W.findIn K (.ref (He.ga K D)) "__class__" = some (some (.builtin "object.__class__"))) &&
  (decide (PySem.W.specialIn K (.builtin "object.__class__") "__get__" = some (some (.builtin "getset_descriptor.__get__"))) && (decide (PySem.W.takesIn K (.builtin "object.__class__") = some true) && decide (PySem.W.mroIn K (He.ga K D) (.type "object") = some true)))))))
theorem exCls_ok {K : PySem.W.Frag} {D : Str} (h : exCls K D = true) : ExcC K (He.ga K D) := by
  unfold exCls at h
  obtain ⟨h1, h⟩ := Bool.and_eq_true_iff.mp h
  obtain ⟨h2, h⟩ := Bool.and_eq_true_iff.mp h
  obtain ⟨h3, h⟩ := Bool.and_eq_true_iff.mp h
  obtain ⟨h4, h⟩ := Bool.and_eq_true_iff.mp h
  obtain ⟨h5, h⟩ := Bool.and_eq_true_iff.mp h
  obtain ⟨h6, h⟩ := Bool.and_eq_true_iff.mp h
  obtain ⟨h7, h8⟩ := Bool.and_eq_true_iff.mp h
  exact ⟨of_decide_eq_true h1, of_decide_eq_true h2, of_decide_eq_true h3, h4, of_decide_eq_true h5, of_decide_eq_true h6, of_decide_eq_true h7, of_decide_eq_true h8⟩
def whichs : List Str := ["BadName", "NameTaken", "NoStore", "NoPatch", "NoLine", "Unsettled", "Same", "Leant"]
def exAll (K : PySem.W.Frag) (D : Str) : Bool := exCls K D && (exVal K D && whichs.all fun C => exOne K D C (decide (C = D)))
def exf (K : PySem.W.Frag) : Bool := exAll K "BadName" && exAll K "NameTaken"
theorem exOne_ok {K : PySem.W.Frag} {D C : Str} (h : exAll K D = true) (hC : C ∈ whichs) : PySem.W.kitOne K (.ref (He.ga K D)) (.ref (He.ga K C)) = some (decide (C = D)) :=
  of_decide_eq_true (List.all_eq_true.mp (Bool.and_eq_true_iff.mp (Bool.and_eq_true_iff.mp h).2).2 C hC)
theorem exVal_ok {K : PySem.W.Frag} {D : Str} (h : exAll K D = true) : PySem.W.kitOne K (.ref (He.ga K D)) (.type "ValueError") = some true :=
  of_decide_eq_true (Bool.and_eq_true_iff.mp (Bool.and_eq_true_iff.mp h).2).1
/-- what the top has written -/
structure Txt (K : PySem.W.Frag) (mg : Str → Option Value) : Prop where
  g_live_of : mg "live_of" = some (.ref (He.ga K "live_of"))
  k_live_of : PySem.W.keepIn K (.ref (He.ga K "live_of")) = true
  F_live_of : ∃ fd, FunD K "live_of" "live_of" (defArgs s_live_of) (defBody s_live_of) (defScope s_live_of) [] [] (He.fAd K ("live_of", none)) fd
  g_lines_of : mg "lines_of" = some (.ref (He.ga K "lines_of"))
  k_lines_of : PySem.W.keepIn K (.ref (He.ga K "lines_of")) = true
  F_lines_of : ∃ fd, FunD K "lines_of" "lines_of" (defArgs s_lines_of) (defBody s_lines_of) (defScope s_lines_of) [] [] (He.fAd K ("lines_of", none)) fd
  g_aheads : mg "aheads" = some (.ref (He.ga K "aheads"))
  k_aheads : PySem.W.keepIn K (.ref (He.ga K "aheads")) = true
  F_aheads : ∃ fd, FunD K "aheads" "aheads" (defArgs s_aheads) (defBody s_aheads) (defScope s_aheads) [] [] (He.fAd K ("aheads", none)) fd
  g_standing : mg "standing" = some (.ref (He.ga K "standing"))
  k_standing : PySem.W.keepIn K (.ref (He.ga K "standing")) = true
  F_standing : ∃ fd, FunD K "standing" "standing" (defArgs s_standing) (defBody s_standing) (defScope s_standing) [] [] (He.fAd K ("standing", none)) fd
  g_row_of : mg "row_of" = some (.ref (He.ga K "row_of"))
  k_row_of : PySem.W.keepIn K (.ref (He.ga K "row_of")) = true
  F_row_of : ∃ fd, FunD K "row_of" "row_of" (defArgs s_row_of) (defBody s_row_of) (defScope s_row_of) [] [] (He.fAd K ("row_of", none)) fd
  g_look_at : mg "look_at" = some (.ref (He.ga K "look_at"))
  k_look_at : PySem.W.keepIn K (.ref (He.ga K "look_at")) = true
  F_look_at : ∃ fd, FunD K "look_at" "look_at" (defArgs s_look_at) (defBody s_look_at) (defScope s_look_at) [] [] (He.fAd K ("look_at", none)) fd
  F_Desk_init__ : ∃ fd, FunD K "__init__" "Desk.__init__" (defArgs s_Desk_init__) (defBody s_Desk_init__) (defScope s_Desk_init__) [] [] (He.fAd K ("Desk", some "__init__")) fd
  m_Desk_look_for : Meth K (He.ga K "Desk") "look_for" (He.ma K (He.ga K "Desk") "look_for")
  F_Desk_look_for : ∃ fd, FunD K "look_for" "Desk.look_for" (defArgs s_Desk_look_for) (defBody s_Desk_look_for) (defScope s_Desk_look_for) [] [] (He.fAd K ("Desk", some "look_for")) fd
  m_Desk_chosen : Meth K (He.ga K "Desk") "chosen" (He.ma K (He.ga K "Desk") "chosen")
  F_Desk_chosen : ∃ fd, FunD K "chosen" "Desk.chosen" (defArgs s_Desk_chosen) (defBody s_Desk_chosen) (defScope s_Desk_chosen) [] [] (He.fAd K ("Desk", some "chosen")) fd
  m_Desk_begin : Meth K (He.ga K "Desk") "begin" (He.ma K (He.ga K "Desk") "begin")
  F_Desk_begin : ∃ fd, FunD K "begin" "Desk.begin" (defArgs s_Desk_begin) (defBody s_Desk_begin) (defScope s_Desk_begin) [] [] (He.fAd K ("Desk", some "begin")) fd
  m_Desk_stores : Meth K (He.ga K "Desk") "stores" (He.ma K (He.ga K "Desk") "stores")
  F_Desk_stores : ∃ fd, FunD K "stores" "Desk.stores" (defArgs s_Desk_stores) (defBody s_Desk_stores) (defScope s_Desk_stores) [] [] (He.fAd K ("Desk", some "stores")) fd
  m_Desk_patches : Meth K (He.ga K "Desk") "patches" (He.ma K (He.ga K "Desk") "patches")
  F_Desk_patches : ∃ fd, FunD K "patches" "Desk.patches" (defArgs s_Desk_patches) (defBody s_Desk_patches) (defScope s_Desk_patches) [] [] (He.fAd K ("Desk", some "patches")) fd
  m_Desk_has : Meth K (He.ga K "Desk") "has" (He.ma K (He.ga K "Desk") "has")
  F_Desk_has : ∃ fd, FunD K "has" "Desk.has" (defArgs s_Desk_has) (defBody s_Desk_has) (defScope s_Desk_has) [] [] (He.fAd K ("Desk", some "has")) fd
  m_Desk_row : Meth K (He.ga K "Desk") "row" (He.ma K (He.ga K "Desk") "row")
  F_Desk_row : ∃ fd, FunD K "row" "Desk.row" (defArgs s_Desk_row) (defBody s_Desk_row) (defScope s_Desk_row) [] [] (He.fAd K ("Desk", some "row")) fd
  m_Desk_files : Meth K (He.ga K "Desk") "files" (He.ma K (He.ga K "Desk") "files")
  F_Desk_files : ∃ fd, FunD K "files" "Desk.files" (defArgs s_Desk_files) (defBody s_Desk_files) (defScope s_Desk_files) [] [] (He.fAd K ("Desk", some "files")) fd
  g_law_cell_at : mg "_law_cell_at" = some (.ref (He.ga K "_law_cell_at"))
  k_law_cell_at : PySem.W.keepIn K (.ref (He.ga K "_law_cell_at")) = true
  F_law_cell_at : ∃ fd, FunD K "_law_cell_at" "_law_cell_at" (defArgs s_law_cell_at) (defBody s_law_cell_at) (defScope s_law_cell_at) [] [] (He.fAd K ("_law_cell_at", none)) fd
  g_law_name : mg "_law_name" = some (.ref (He.ga K "_law_name"))
  k_law_name : PySem.W.keepIn K (.ref (He.ga K "_law_name")) = true
  F_law_name : ∃ fd, FunD K "_law_name" "_law_name" (defArgs s_law_name) (defBody s_law_name) (defScope s_law_name) [] [] (He.fAd K ("_law_name", none)) fd
  g_law_names_are : mg "_law_names_are" = some (.ref (He.ga K "_law_names_are"))
  k_law_names_are : PySem.W.keepIn K (.ref (He.ga K "_law_names_are")) = true
  F_law_names_are : ∃ fd, FunD K "_law_names_are" "_law_names_are" (defArgs s_law_names_are) (defBody s_law_names_are) (defScope s_law_names_are) [] [] (He.fAd K ("_law_names_are", none)) fd
  g_law_which : mg "_law_which" = some (.ref (He.ga K "_law_which"))
  k_law_which : PySem.W.keepIn K (.ref (He.ga K "_law_which")) = true
  F_law_which : ∃ fd, FunD K "_law_which" "_law_which" (defArgs s_law_which) (defBody s_law_which) (defScope s_law_which) [] [] (He.fAd K ("_law_which", none)) fd
  g_law_due : mg "_law_due" = some (.ref (He.ga K "_law_due"))
  k_law_due : PySem.W.keepIn K (.ref (He.ga K "_law_due")) = true
  F_law_due : ∃ fd, FunD K "_law_due" "_law_due" (defArgs s_law_due) (defBody s_law_due) (defScope s_law_due) [] [] (He.fAd K ("_law_due", none)) fd
  g_law_asked : mg "_law_asked" = some (.ref (He.ga K "_law_asked"))
  k_law_asked : PySem.W.keepIn K (.ref (He.ga K "_law_asked")) = true
  F_law_asked : ∃ fd, FunD K "_law_asked" "_law_asked" (defArgs s_law_asked) (defBody s_law_asked) (defScope s_law_asked) [] [] (He.fAd K ("_law_asked", none)) fd
  g_law_odd_name : mg "_law_odd_name" = some (.ref (He.ga K "_law_odd_name"))
  k_law_odd_name : PySem.W.keepIn K (.ref (He.ga K "_law_odd_name")) = true
  F_law_odd_name : ∃ fd, FunD K "_law_odd_name" "_law_odd_name" (defArgs s_law_odd_name) (defBody s_law_odd_name) (defScope s_law_odd_name) [] [] (He.fAd K ("_law_odd_name", none)) fd
  g_law : mg "law" = some (.ref (He.ga K "law"))
  k_law : PySem.W.keepIn K (.ref (He.ga K "law")) = true
  F_law : ∃ fd, FunD K "law" "law" (defArgs s_law) (defBody s_law) (defScope s_law) [] [] (He.fAd K ("law", none)) fd
  g_Desk : mg "Desk" = some (.ref (He.ga K "Desk"))
  c_Desk : Cls K (He.ga K "Desk")
  m_Desk : Mk K (He.ga K "Desk") (He.ma K (He.ga K "Desk") "__init__")
  n_Desk_made : NoAttr K (He.ga K "Desk") "made"
  n_Desk_having : NoAttr K (He.ga K "Desk") "having"
  g_PatchError : mg "PatchError" = some (.ref (He.ga K "PatchError"))
  x_PatchError : PySem.W.excIn K (He.ga K "PatchError") [.type "ValueError", .type "Exception", .type "BaseException", .type "object"] "ValueError.__new__" = true
  k_PatchError : PySem.W.keepIn K (.ref (He.ga K "PatchError")) = true
  s_PatchError : PySem.W.subIn K (.ref (He.ga K "PatchError")) (.type "BaseException") = some true
  t_PatchError : PySem.W.typeIn K (.ref (He.ga K "PatchError")) = some (.type "type")
  g_BadName : mg "BadName" = some (.ref (He.ga K "BadName"))
  x_BadName : PySem.W.excIn K (He.ga K "BadName") [.type "ValueError", .type "Exception", .type "BaseException", .type "object"] "ValueError.__new__" = true
  k_BadName : PySem.W.keepIn K (.ref (He.ga K "BadName")) = true
  s_BadName : PySem.W.subIn K (.ref (He.ga K "BadName")) (.type "BaseException") = some true
  t_BadName : PySem.W.typeIn K (.ref (He.ga K "BadName")) = some (.type "type")
  g_NameTaken : mg "NameTaken" = some (.ref (He.ga K "NameTaken"))
  x_NameTaken : PySem.W.excIn K (He.ga K "NameTaken") [.type "ValueError", .type "Exception", .type "BaseException", .type "object"] "ValueError.__new__" = true
  k_NameTaken : PySem.W.keepIn K (.ref (He.ga K "NameTaken")) = true
  s_NameTaken : PySem.W.subIn K (.ref (He.ga K "NameTaken")) (.type "BaseException") = some true
  t_NameTaken : PySem.W.typeIn K (.ref (He.ga K "NameTaken")) = some (.type "type")
  g_NoStore : mg "NoStore" = some (.ref (He.ga K "NoStore"))
  x_NoStore : PySem.W.excIn K (He.ga K "NoStore") [.type "ValueError", .type "Exception", .type "BaseException", .type "object"] "ValueError.__new__" = true
  k_NoStore : PySem.W.keepIn K (.ref (He.ga K "NoStore")) = true
  s_NoStore : PySem.W.subIn K (.ref (He.ga K "NoStore")) (.type "BaseException") = some true
  t_NoStore : PySem.W.typeIn K (.ref (He.ga K "NoStore")) = some (.type "type")
  g_NoPatch : mg "NoPatch" = some (.ref (He.ga K "NoPatch"))
  x_NoPatch : PySem.W.excIn K (He.ga K "NoPatch") [.type "ValueError", .type "Exception", .type "BaseException", .type "object"] "ValueError.__new__" = true
  k_NoPatch : PySem.W.keepIn K (.ref (He.ga K "NoPatch")) = true
  s_NoPatch : PySem.W.subIn K (.ref (He.ga K "NoPatch")) (.type "BaseException") = some true
  t_NoPatch : PySem.W.typeIn K (.ref (He.ga K "NoPatch")) = some (.type "type")
  g_NoLine : mg "NoLine" = some (.ref (He.ga K "NoLine"))
  x_NoLine : PySem.W.excIn K (He.ga K "NoLine") [.type "ValueError", .type "Exception", .type "BaseException", .type "object"] "ValueError.__new__" = true
  k_NoLine : PySem.W.keepIn K (.ref (He.ga K "NoLine")) = true
  s_NoLine : PySem.W.subIn K (.ref (He.ga K "NoLine")) (.type "BaseException") = some true
  t_NoLine : PySem.W.typeIn K (.ref (He.ga K "NoLine")) = some (.type "type")
  g_Unsettled : mg "Unsettled" = some (.ref (He.ga K "Unsettled"))
  x_Unsettled : PySem.W.excIn K (He.ga K "Unsettled") [.type "ValueError", .type "Exception", .type "BaseException", .type "object"] "ValueError.__new__" = true
  k_Unsettled : PySem.W.keepIn K (.ref (He.ga K "Unsettled")) = true
  s_Unsettled : PySem.W.subIn K (.ref (He.ga K "Unsettled")) (.type "BaseException") = some true
  t_Unsettled : PySem.W.typeIn K (.ref (He.ga K "Unsettled")) = some (.type "type")
  g_Same : mg "Same" = some (.ref (He.ga K "Same"))
  x_Same : PySem.W.excIn K (He.ga K "Same") [.type "ValueError", .type "Exception", .type "BaseException", .type "object"] "ValueError.__new__" = true
  k_Same : PySem.W.keepIn K (.ref (He.ga K "Same")) = true
  s_Same : PySem.W.subIn K (.ref (He.ga K "Same")) (.type "BaseException") = some true
  t_Same : PySem.W.typeIn K (.ref (He.ga K "Same")) = some (.type "type")
  g_Leant : mg "Leant" = some (.ref (He.ga K "Leant"))
  x_Leant : PySem.W.excIn K (He.ga K "Leant") [.type "ValueError", .type "Exception", .type "BaseException", .type "object"] "ValueError.__new__" = true
  k_Leant : PySem.W.keepIn K (.ref (He.ga K "Leant")) = true
  s_Leant : PySem.W.subIn K (.ref (He.ga K "Leant")) (.type "BaseException") = some true
  t_Leant : PySem.W.typeIn K (.ref (He.ga K "Leant")) = some (.type "type")
  b_dict : mg "dict" = none
  b_enumerate : mg "enumerate" = none
  b_isinstance : mg "isinstance" = none
  b_len : mg "len" = none
  b_list : mg "list" = none
  b_range : mg "range" = none
  b_reversed : mg "reversed" = none
  b_sorted : mg "sorted" = none
  b_str : mg "str" = none
  b_ValueError : mg "ValueError" = none
  v_SIGNS : ∃ t, mg "SIGNS" = some (.str "abcdefghijklmnopqrstuvwxyz0123456789" t)
  xx : exf K = true
  e_BadName : PySem.W.exmOne K (.ref (He.ga K "BadName")) (.ref (He.ga K "PatchError")) = some true
  e_NameTaken : PySem.W.exmOne K (.ref (He.ga K "NameTaken")) (.ref (He.ga K "PatchError")) = some true
end PkB
namespace PkB
open PySem PySem.Spec PyProof.Rows L2
theorem sc_live_of : FnScope ["patches", "dead", "patch"] ["patches"] (defScope s_live_of) := ⟨rfl, rfl, rfl, by decide +kernel, rfl, by decide +kernel, by decide +kernel⟩
/-- of no patches -/
def sp_live_of (K : PySem.W.Frag) : Sp := fun vs H Q _ => ∃ (a : Addr), vs = [.ref a] ∧ SqL K H a [] ∧ ∀ (p : Addr) (H' : Hp), Pk.Ex H H' → H' p = some (.lst []) → Q (.ref p) H'
theorem sp_live_of_len {K : PySem.W.Frag} {vs : List V} {H : Hp} {Q : VK} {E : XK} (h : sp_live_of K vs H Q E) : vs.length = 1 := by
  obtain ⟨_, rfl, _⟩ := h
  rfl
section
variable {P : Program} {w : World} {K : PySem.W.Frag} {mg : Str → Option Value} {base : Heap}
theorem ok_live_of (T : Txt K mg) : Pk.Ok P w K mg base CX0 1 (He.fAd K ("live_of", none)) ["patches"] (sp_live_of K) := by
  obtain ⟨fd, F⟩ := T.F_live_of
  refine ⟨fd, F.ok sc_live_of ?len ?body, F.bindsN fun _ _ _ _ _ _ us hl => match us, hl with | [_], _ => rfl⟩
  case len => exact fun vs H Q E h => sp_live_of_len h
  intro cdv A outer s H vs Q E hr h
  have hu := hu_of hr
  have hu64 := hr.units
  have hu65 := Pk.units65 hr
  refine ⟨_, PSs.nox ((pss_cons (ps_set (i := 1) sc_live_of.nd rfl (Or.inr rfl) pe_dnewK)
      (pss_cons (ps_for PassesOwn.never rfl (pi_reversed rfl T.b_reversed (pa_cons (pv 0) pa_nil)) (pg_name (i := 2) sc_live_of.nd rfl (Or.inl rfl)) Pk.pss_never)
      (pss_one (ps_ret (pe_lc (own := [("patch", 2)]) (g := gName 2) rfl sc_live_of.nd (Pk.piL K (pv 0)) (blkOk_by (own := [("patch", 2)]) (N := ["patches", "dead", "patch"]) (sc := defScope s_live_of) (by decide +kernel)) (fun _ _ _ _ _ => (pg_name (i := 2) sc_live_of.nd rfl (Or.inl rfl))) (fun _ _ _ _ _ => (pts_one Pk.pt_never)) (fun _ _ _ _ _ => (pv 2)))))))), ?_⟩

  obtain ⟨a, rfl, hA, q⟩ := h
  wtm_at "go"
  intro p0 n_p0
  generalize q_p0 : upd _ p0 _ = H0
  have x_H0 := Pk.lay_ex n_p0 q_p0
  have s_p0 := Pk.lay_at q_p0
  clear q_p0
  wtm_at "go"
  refine ⟨a, [], rfl, x_H0.seqL hA, Pk.for_none Pk.stopV ?_⟩
  wtm_at "go"
  refine ⟨⟨[], x_H0.seqL hA⟩, Pk.lc_none (fun p hp => Pk.stopL ((Pk.Ex.new hp).seqL (x_H0.seqL hA))) fun p hp => ?_⟩
  exact q p _ (x_H0.trans (Pk.Ex.new hp)) upd_same
end
end PkB
namespace PkB
open PySem PySem.Spec PyProof.Rows L2
theorem sc_lines_of : FnScope ["patches", "file", "found", "patch", "number", "put"] ["patches", "file"] (defScope s_lines_of) := ⟨rfl, rfl, rfl, by decide +kernel, rfl, by decide +kernel, by decide +kernel⟩
/-- of no patches -/
def sp_lines_of (K : PySem.W.Frag) : Sp := fun vs H Q _ => ∃ (a : Addr) (f : V), vs = [.ref a, f] ∧ SqL K H a [] ∧ ∀ (p : Addr) (H' : Hp), Pk.Ex H H' → H' p = some (.lst []) → Q (.ref p) H'
theorem sp_lines_of_len {K : PySem.W.Frag} {vs : List V} {H : Hp} {Q : VK} {E : XK} (h : sp_lines_of K vs H Q E) : vs.length = 2 := by
  obtain ⟨_, _, rfl, _⟩ := h
  rfl
section
variable {P : Program} {w : World} {K : PySem.W.Frag} {mg : Str → Option Value} {base : Heap}
theorem ok_lines_of (T : Txt K mg) : Pk.Ok P w K mg base CX0 1 (He.fAd K ("lines_of", none)) ["patches", "file"] (sp_lines_of K) := by
  obtain ⟨fd, F⟩ := T.F_lines_of
  refine ⟨fd, F.ok sc_lines_of ?len ?body, F.bindsN fun _ _ _ _ _ _ us hl => match us, hl with | [_, _], _ => rfl⟩
  case len => exact fun vs H Q E h => sp_lines_of_len h
  intro cdv A outer s H vs Q E hr h
  have hu := hu_of hr
  have hu64 := hr.units
  have hu65 := Pk.units65 hr
  refine ⟨_, PSs.nox ((pss_cons (ps_set (i := 2) sc_lines_of.nd rfl (Or.inl rfl) (pe_lst pa_nil))
      (pss_cons (ps_for PassesOwn.never rfl (Pk.piL K (pv 0)) (pg_name (i := 3) sc_lines_of.nd rfl (Or.inl rfl)) Pk.pss_never)
      (pss_one (ps_ret (pv 2)))))), ?_⟩

  obtain ⟨a, f, rfl, hA, q⟩ := h
  wtm_at "go"
  refine ⟨Nat.le_of_ble_eq_true rfl, fun p0 n_p0 => ?_⟩
  generalize q_p0 : upd _ p0 _ = H0
  have x_H0 := Pk.lay_ex n_p0 q_p0
  have s_p0 := Pk.lay_at q_p0
  clear q_p0
  wtm_at "go"
  refine ⟨⟨[], x_H0.seqL hA⟩, Pk.for_none (Pk.stopL (x_H0.seqL hA)) ?_⟩
  wtm_at "go"
  exact q p0 _ x_H0 s_p0
end
end PkB
namespace PkB
open PySem PySem.Spec PyProof.Rows L2
theorem sc_aheads : FnScope ["lines", "found", "line", "mine", "other"] ["lines"] (defScope s_aheads) := ⟨rfl, rfl, rfl, by decide +kernel, rfl, by decide +kernel, by decide +kernel⟩
/-- of no lines -/
def sp_aheads (K : PySem.W.Frag) : Sp := fun vs H Q _ => ∃ (a : Addr), vs = [.ref a] ∧ SqL K H a [] ∧ ∀ (p : Addr) (H' : Hp), Pk.Ex H H' → Q (.ref p) H'
theorem sp_aheads_len {K : PySem.W.Frag} {vs : List V} {H : Hp} {Q : VK} {E : XK} (h : sp_aheads K vs H Q E) : vs.length = 1 := by
  obtain ⟨_, rfl, _⟩ := h
  rfl
section
variable {P : Program} {w : World} {K : PySem.W.Frag} {mg : Str → Option Value} {base : Heap}
theorem ok_aheads (T : Txt K mg) : Pk.Ok P w K mg base CX0 1 (He.fAd K ("aheads", none)) ["lines"] (sp_aheads K) := by
  obtain ⟨fd, F⟩ := T.F_aheads
  refine ⟨fd, F.ok sc_aheads ?len ?body, F.bindsN fun _ _ _ _ _ _ us hl => match us, hl with | [_], _ => rfl⟩
  case len => exact fun vs H Q E h => sp_aheads_len h
  intro cdv A outer s H vs Q E hr h
  have hu := hu_of hr
  have hu64 := hr.units
  have hu65 := Pk.units65 hr
  refine ⟨_, PSs.nox ((pss_cons (ps_set (i := 1) sc_aheads.nd rfl (Or.inl rfl) pe_dnewT)
      (pss_cons (ps_for PassesOwn.never rfl (Pk.piL K (pv 0)) (pg_name (i := 2) sc_aheads.nd rfl (Or.inl rfl)) Pk.pss_never)
      (pss_one (ps_ret (pv 1)))))), ?_⟩

  obtain ⟨a, rfl, hA, q⟩ := h
  wtm_at "go"
  intro p0 n_p0
  generalize q_p0 : upd _ p0 _ = H0
  have x_H0 := Pk.lay_ex n_p0 q_p0
  have s_p0 := Pk.lay_at q_p0
  clear q_p0
  wtm_at "go"
  refine ⟨⟨[], x_H0.seqL hA⟩, Pk.for_none (Pk.stopL (x_H0.seqL hA)) ?_⟩
  wtm_at "go"
  exact q p0 _ x_H0
end
end PkB
namespace PkB
open PySem PySem.Spec PyProof.Rows L2
theorem sc_standing : FnScope ["patches", "file", "live", "gone", "patch", "name", "line"] ["patches", "file"] (defScope s_standing) := ⟨rfl, rfl, rfl, by decide +kernel, rfl, by decide +kernel, by decide +kernel⟩
/-- of no patches -/
def sp_standing (K : PySem.W.Frag) : Sp := fun vs H Q _ => ∃ (a : Addr) (f : V), vs = [.ref a, f] ∧ SqL K H a [] ∧ ∀ (p : Addr) (H' : Hp), Pk.Ex H H' → H' p = some (.lst []) → Q (.ref p) H'
theorem sp_standing_len {K : PySem.W.Frag} {vs : List V} {H : Hp} {Q : VK} {E : XK} (h : sp_standing K vs H Q E) : vs.length = 2 := by
  obtain ⟨_, _, rfl, _⟩ := h
  rfl
section
variable {P : Program} {w : World} {K : PySem.W.Frag} {mg : Str → Option Value} {base : Heap}
theorem ok_standing (T : Txt K mg) : Pk.Ok P w K mg base CX0 2 (He.fAd K ("standing", none)) ["patches", "file"] (sp_standing K) := by
  obtain ⟨fd, F⟩ := T.F_standing
  obtain ⟨fd_live_of, G_live_of, B_live_of⟩ := (ok_live_of (P := P) (w := w) (base := base) T).ex
  obtain ⟨fd_lines_of, G_lines_of, B_lines_of⟩ := (ok_lines_of (P := P) (w := w) (base := base) T).ex
  refine ⟨fd, F.ok sc_standing ?len ?body, F.bindsN fun _ _ _ _ _ _ us hl => match us, hl with | [_, _], _ => rfl⟩
  case len => exact fun vs H Q E h => sp_standing_len h
  intro cdv A outer s H vs Q E hr h
  have hu := hu_of hr
  have hu64 := hr.units
  have hu65 := Pk.units65 hr
  refine ⟨_, PSs.nox ((pss_cons (ps_set (i := 2) sc_standing.nd rfl (Or.inl rfl) (pe_call G_live_of (hr.mono (by decide)) rfl T.g_live_of T.k_live_of B_live_of .nil pass0 (pa_cons (pv 0) pa_nil)))
      (pss_cons (ps_set (i := 3) sc_standing.nd rfl (Or.inr rfl) pe_dnewT)
      (pss_cons (ps_for PassesOwn.never rfl (Pk.piL K (pv 2)) (pg_name (i := 4) sc_standing.nd rfl (Or.inl rfl)) Pk.pss_never)
      (pss_one (ps_ret (pe_lc (own := [("line", 6)]) (g := gName 6) rfl sc_standing.nd (Pk.piL K (pe_call G_lines_of (hr.mono (by decide)) rfl T.g_lines_of T.k_lines_of B_lines_of .nil pass0 (pa_cons (pv 2) (pa_cons (pv 1) pa_nil)))) (blkOk_by (own := [("line", 6)]) (N := ["patches", "file", "live", "gone", "patch", "name", "line"]) (sc := defScope s_standing) (by decide +kernel)) (fun _ _ _ _ _ => (pg_name (i := 6) sc_standing.nd rfl (Or.inl rfl))) (fun _ _ _ _ _ => (pts_one Pk.pt_never)) (fun _ _ _ _ _ => Pk.pe_never)))))))), ?_⟩

  obtain ⟨a, f, rfl, hA, q⟩ := h
  wtm_at "go"
  refine ⟨a, rfl, hA, fun p1 H1 e1 s1 => ?_⟩
  wtm_at "go"
  intro p2 n_p2
  generalize q_p2 : upd _ p2 _ = H2
  have x_H2 := Pk.lay_ex n_p2 q_p2
  have s_p2 := Pk.lay_at q_p2
  clear q_p2
  wtm_at "go"
  have s2 := SqL.of (K := K) (x_H2 _ _ s1)
  refine ⟨⟨[], s2⟩, Pk.for_none (Pk.stopL s2) ?_⟩
  wtm_at "go"
  refine ⟨p1, f, rfl, s2, fun p3 H3 e3 s3 => ?_⟩
  wtm_at "go"
  refine ⟨⟨[], SqL.of s3⟩, Pk.lc_none (fun p hp => Pk.stopL ((Pk.Ex.new hp).seqL (SqL.of s3))) fun p hp => ?_⟩
  exact q p _ (e1.trans (x_H2.trans (e3.trans (Pk.Ex.new hp)))) upd_same
end
end PkB
namespace PkB
open PySem PySem.Spec PyProof.Rows L2
theorem sc_row_of : FnScope ["patches", "file", "ahead", "left", "row", "free", "name"] ["patches", "file"] (defScope s_row_of) := ⟨rfl, rfl, rfl, by decide +kernel, rfl, by decide +kernel, by decide +kernel⟩
/-- of no patches -/
def sp_row_of (K : PySem.W.Frag) : Sp := fun vs H Q _ => ∃ (a : Addr) (f : V), vs = [.ref a, f] ∧ SqL K H a [] ∧ ∀ (p : Addr) (H' : Hp), Pk.Ex H H' → H' p = some (.lst []) → Q (.ref p) H'
theorem sp_row_of_len {K : PySem.W.Frag} {vs : List V} {H : Hp} {Q : VK} {E : XK} (h : sp_row_of K vs H Q E) : vs.length = 2 := by
  obtain ⟨_, _, rfl, _⟩ := h
  rfl
section
variable {P : Program} {w : World} {K : PySem.W.Frag} {mg : Str → Option Value} {base : Heap}
theorem ok_row_of (T : Txt K mg) : Pk.Ok P w K mg base CX0 3 (He.fAd K ("row_of", none)) ["patches", "file"] (sp_row_of K) := by
  obtain ⟨fd, F⟩ := T.F_row_of
  obtain ⟨fd_aheads, G_aheads, B_aheads⟩ := (ok_aheads (P := P) (w := w) (base := base) T).ex
  obtain ⟨fd_standing, G_standing, B_standing⟩ := (ok_standing (P := P) (w := w) (base := base) T).ex
  obtain ⟨fd_lines_of, G_lines_of, B_lines_of⟩ := (ok_lines_of (P := P) (w := w) (base := base) T).ex
  refine ⟨fd, F.ok sc_row_of ?len ?body, F.bindsN fun _ _ _ _ _ _ us hl => match us, hl with | [_, _], _ => rfl⟩
  case len => exact fun vs H Q E h => sp_row_of_len h
  intro cdv A outer s H vs Q E hr h
  have hu := hu_of hr
  have hu64 := hr.units
  have hu65 := Pk.units65 hr
  refine ⟨_, PSs.nox ((pss_cons (ps_set (i := 2) sc_row_of.nd rfl (Or.inr rfl) (pe_call G_aheads (hr.mono (by decide)) rfl T.g_aheads T.k_aheads B_aheads .nil pass0 (pa_cons (pe_call G_lines_of (hr.mono (by decide)) rfl T.g_lines_of T.k_lines_of B_lines_of .nil pass0 (pa_cons (pv 0) (pa_cons (pv 1) pa_nil))) pa_nil)))
      (pss_cons (ps_set (i := 3) sc_row_of.nd rfl (Or.inr rfl) (pe_call G_standing (hr.mono (by decide)) rfl T.g_standing T.k_standing B_standing .nil pass0 (pa_cons (pv 0) (pa_cons (pv 1) pa_nil))))
      (pss_cons (ps_set (i := 4) sc_row_of.nd rfl (Or.inl rfl) (pe_lst pa_nil))
      (pss_cons (ps_while PassesOwn.never (pt_cmpR op_gt (pe_callB (Pk.lenK K) (by rfl) T.b_len Pk.bt_len (pa_cons (pv 3) pa_nil)) pe_int (nomark _)) Pk.pss_never)
      (pss_one (ps_ret (pv 4)))))))), ?_⟩

  obtain ⟨a, f, rfl, hA, q⟩ := h
  wtm_at "go"
  refine ⟨a, f, rfl, hA, fun p1 H1 e1 s1 => ?_⟩
  wtm_at "go"
  refine ⟨p1, rfl, SqL.of s1, fun p2 H2 e2 => ?_⟩
  wtm_at "go"
  refine ⟨a, f, rfl, (e1.trans e2).seqL hA, fun p3 H3 e3 s3 => ?_⟩
  wtm_at "go"
  refine ⟨Nat.le_of_ble_eq_true rfl, fun p4 n_p4 => ?_⟩
  generalize q_p4 : upd _ p4 _ = H4
  have x_H4 := Pk.lay_ex n_p4 q_p4
  have s_p4 := Pk.lay_at q_p4
  clear q_p4
  wtm_at "go"
  have e4 := e1.trans (e2.trans (e3.trans x_H4))
  have s5 := x_H4 _ _ s3
  refine ⟨fun _ σ' H' => H' = H4 ∧ σ' = [some (.ref a), some f, some (.ref p2), some (.ref p3), some (.ref p4), none, none], ⟨0, rfl, rfl⟩, ?_⟩
  rintro m σ' H' ⟨rfl, rfl⟩
  wtm_at "go"
  refine Pk.rd_no (by decide) ?_
  wtm_at "go"
  exact q p4 _ e4 s_p4
end
end PkB
namespace PkB
open PySem PySem.Spec PyProof.Rows L2
theorem sc_look_at : FnScope ["name", "sign"] ["name"] (defScope s_look_at) := ⟨rfl, rfl, rfl, by decide +kernel, rfl, by decide +kernel, by decide +kernel⟩
/-- a good name goes through, another one is told -/
def sp_look_at (K : PySem.W.Frag) : Sp := fun vs H Q E => ∃ (s : Str), vs = [.str s] ∧ s.length ≤ 1000 ∧ (Pk.Good s → Q .non H) ∧ (¬ Pk.Good s → E (.ref (He.ga K "BadName")) none H)
theorem sp_look_at_len {K : PySem.W.Frag} {vs : List V} {H : Hp} {Q : VK} {E : XK} (h : sp_look_at K vs H Q E) : vs.length = 1 := by
  obtain ⟨_, rfl, _⟩ := h
  rfl
section
variable {P : Program} {w : World} {K : PySem.W.Frag} {mg : Str → Option Value} {base : Heap}
theorem ok_look_at (T : Txt K mg) : Pk.Ok P w K mg base (L2N.CX P w) 1 (He.fAd K ("look_at", none)) ["name"] (sp_look_at K) := by
  obtain ⟨fd, F⟩ := T.F_look_at
  refine ⟨fd, F.ok sc_look_at ?len ?body, F.bindsN fun _ _ _ _ _ _ us hl => match us, hl with | [_], _ => rfl⟩
  case len => exact fun vs H Q E h => sp_look_at_len h
  intro cdv A outer s H vs Q E hr h
  have hu := hu_of hr
  have hu64 := hr.units
  have hu65 := Pk.units65 hr
  have tk0 : L2N.Takes (cxOf (L2N.CX P w) P w K mg base ["name", "sign"] "look_at" (defScope s_look_at) (He.fAd K ("look_at", none)) cdv A outer s H E) (fun cls d _ H => E cls d H) := L2N.takes_of rfl rfl rfl rfl
  refine ⟨_, (pss_cons (ps_if (pt_not (pt_chain op_le op_le pe_int (pe_callB call_len_str (by rfl) T.b_len Pk.bt_len (pa_cons (pv 0) pa_nil)) pe_int)) (pss_one (L2N.ps_raise rfl tk0 (L2N.pmk_own PySem.F.excBase_ValueError T.x_BadName T.g_BadName T.k_BadName (raises_own T.s_BadName T.t_BadName) rfl))) pss_nil)
      (pss_one (ps_for (passes_of rfl) rfl (pi_str (pv 0)) (pg_name (i := 1) sc_look_at.nd rfl (Or.inl rfl)) (pss_one (ps_if (pt_cmpR op_notIn_sign (pv 1) (pe_glob (v := V.str (Str.ofString "abcdefghijklmnopqrstuvwxyz0123456789")) rfl T.v_SIGNS.choose_spec ⟨_, rfl⟩) rfl) (pss_one (L2N.ps_raise rfl tk0 (L2N.pmk_own PySem.F.excBase_ValueError T.x_BadName T.g_BadName T.k_BadName (raises_own T.s_BadName T.t_BadName) rfl))) pss_nil))))), ?_⟩
  obtain ⟨s, rfl, hl, q1, q2⟩ := h
  wtm_at "go"
  refine Pk.rd_lenS (Pk.line_le (by omega)) ?_
  wtm_at "go"
  refine Pk.rd_dec (fun c1 => ?_) (fun c1 => ?_)
  rotate_left
  · wtm_at "go"
    exact q2 fun g => absurd g.lo (by omega)
  wtm_at "go"
  refine Pk.rd_ndec (fun c2 => ?_) (fun c2 => ?_)
  · wtm_at "go"
    exact q2 fun g => absurd g.hi (by omega)
  wtm_at "go"
  have l1 : 1 ≤ s.length := by omega
  have l2 : s.length ≤ 12 := by omega
  refine Pk.for_strW (fun i σ' H2 => H2 = H ∧ (∃ v, σ' = [some (.str s), v]) ∧ ∀ j c, j < i → s.cps[j]? = some c → c ∈ Pk.SG.cps.toList) ⟨rfl, ⟨_, rfl⟩, fun j c hj => absurd hj (Nat.not_lt_zero _)⟩ ?_ ?_
  · rintro i c σ' H2 hc ⟨rfl, ⟨v, rfl⟩, hg⟩
    wtm_at "go"
    refine ⟨c, _, rfl, rfl, ?_⟩
    wtm_at "go"
    refine Pk.rd_ndec (fun cn => ?_) (fun cy => ?_)
    · wtm_at "go"
      exact q2 fun g => cn (g.sg c (by rw [List.mem_iff_getElem?]; exact ⟨i, by rw [Array.getElem?_toList]; exact hc⟩))
    · wtm_at "go"
      refine ⟨rfl, ⟨_, rfl⟩, fun j d hj hd => ?_⟩
      by_cases e : j = i
      · subst e
        rw [hc] at hd
        cases hd
        exact cy
      · exact hg j d (by omega) hd
  · rintro σ' H2 ⟨rfl, ⟨v, rfl⟩, hg⟩
    wtm_at "go"
    refine q1 ⟨l1, l2, fun c hc => ?_⟩
    obtain ⟨j, hj⟩ := List.mem_iff_getElem?.mp hc
    rw [Array.getElem?_toList] at hj
    exact hg j c (Array.getElem?_eq_some_iff.mp hj).1 hj
end
end PkB
namespace PkB
open PySem PySem.Spec PyProof.Rows L2
theorem sc_Desk_init__ : FnScope ["self"] ["self"] (defScope s_Desk_init__) := ⟨rfl, rfl, rfl, by decide +kernel, rfl, by decide +kernel, by decide +kernel⟩
/-- a desk without stores -/
def sp_Desk_init__ (K : PySem.W.Frag) : Sp := fun vs H Q _ => ∃ (a dx : Addr), vs = [.ref a] ∧ H a = some (.ins (He.ga K "Desk") dx []) ∧ ∀ (m h : Addr) (H' : Hp), (∀ b o, b ≠ a → H b = some o → H' b = some o) → Pk.DeskE K H' a m h [] [] → H m = none → H h = none → Q .non H'
theorem sp_Desk_init___len {K : PySem.W.Frag} {vs : List V} {H : Hp} {Q : VK} {E : XK} (h : sp_Desk_init__ K vs H Q E) : vs.length = 1 := by
  obtain ⟨_, _, rfl, _⟩ := h
  rfl
section
variable {P : Program} {w : World} {K : PySem.W.Frag} {mg : Str → Option Value} {base : Heap}
theorem ok_Desk_init__ (T : Txt K mg) : Pk.Ok P w K mg base CX0 1 (He.fAd K ("Desk", some "__init__")) ["self"] (sp_Desk_init__ K) := by
  obtain ⟨fd, F⟩ := T.F_Desk_init__
  refine ⟨fd, F.ok sc_Desk_init__ ?len ?body, F.bindsN fun _ _ _ _ _ _ us hl => match us, hl with | [_], _ => rfl⟩
  case len => exact fun vs H Q E h => sp_Desk_init___len h
  intro cdv A outer s H vs Q E hr h
  have hu := hu_of hr
  have hu64 := hr.units
  have hu65 := Pk.units65 hr
  refine ⟨_, PSs.nox ((pss_cons (ps_fld (pv 0) pe_dnewK rfl)
      (pss_one (ps_fld (pv 0) pe_dnewK rfl)))), ?_⟩

  obtain ⟨a, dx, rfl, hi, q⟩ := h
  wtm_at "go"
  intro m n_m
  generalize q_m : upd _ m _ = H1
  have x_H1 := Pk.lay_ex n_m q_m
  have s_m := Pk.lay_at q_m
  clear q_m
  wtm_at "go"
  refine Pk.rd_sfldA (x_H1 _ _ hi) T.c_Desk T.n_Desk_made (by show _ < 1000; first | (show 0 < 1000; decide) | (show 1 < 1000; decide)) ?_
  generalize q_H2 : upd _ a _ = H2
  have s_H2 := Pk.lay_at q_H2
  have m_H2 := Pk.lay_mut q_H2
  clear q_H2
  wtm_at "go"
  intro h n_h
  generalize q_h : upd _ h _ = H3
  have x_H3 := Pk.lay_ex n_h q_h
  have s_h := Pk.lay_at q_h
  clear q_h
  wtm_at "go"
  refine Pk.rd_sfldA (x_H3 _ _ s_H2) T.c_Desk T.n_Desk_having (by show _ < 1000; first | (show 0 < 1000; decide) | (show 1 < 1000; decide)) ?_
  generalize q_H4 : upd _ a _ = H4
  have s_H4 := Pk.lay_at q_H4
  have m_H4 := Pk.lay_mut q_H4
  clear q_H4
  wtm_at "go"
  have nam : a ≠ m := by
    rintro rfl
    rw [hi] at n_m
    cases n_m
  have m2 : H2 m = some (.dK []) := m_H2 _ _ (Ne.symm nam) s_m
  have nah : a ≠ h := by
    rintro rfl
    rw [s_H2] at n_h
    cases n_h
  have nmh : m ≠ h := by
    rintro rfl
    rw [m2] at n_h
    cases n_h
  have nh0 : H h = none := by
    cases e : H h with
    | none => rfl
    | some o =>
      have z := m_H2 _ _ (Ne.symm nah) (x_H1 _ _ e)
      rw [n_h] at z
      cases z
  refine q m h H4 (fun b o hb ho => m_H4 _ _ hb (x_H3 _ _ (m_H2 _ _ hb (x_H1 _ _ ho)))) ⟨⟨dx, s_H4⟩, m_H4 _ _ (Ne.symm nam) (x_H3 _ _ m2), m_H4 _ _ (Ne.symm nah) s_h, rfl, fun p hp => absurd hp List.not_mem_nil, by decide, nmh⟩ n_m nh0
end
end PkB
namespace PkB
open PySem PySem.Spec PyProof.Rows L2
theorem sc_Desk_look_for : FnScope ["self", "store"] ["self", "store"] (defScope s_Desk_look_for) := ⟨rfl, rfl, rfl, by decide +kernel, rfl, by decide +kernel, by decide +kernel⟩
/-- a store that is there -/
def sp_Desk_look_for (K : PySem.W.Frag) : Sp := fun vs H Q _ => ∃ (a m h : Addr) (kvs : List (Key × V)) (ns : List Str) (s : Str), vs = [.ref a, .str s] ∧ Pk.DeskE K H a m h kvs ns ∧ s ∈ ns ∧ Q .non H
theorem sp_Desk_look_for_len {K : PySem.W.Frag} {vs : List V} {H : Hp} {Q : VK} {E : XK} (h : sp_Desk_look_for K vs H Q E) : vs.length = 2 := by
  obtain ⟨_, _, _, _, _, _, rfl, _⟩ := h
  rfl
section
variable {P : Program} {w : World} {K : PySem.W.Frag} {mg : Str → Option Value} {base : Heap}
theorem ok_Desk_look_for (T : Txt K mg) : Pk.Ok P w K mg base CX0 1 (He.fAd K ("Desk", some "look_for")) ["self", "store"] (sp_Desk_look_for K) := by
  obtain ⟨fd, F⟩ := T.F_Desk_look_for
  refine ⟨fd, F.ok sc_Desk_look_for ?len ?body, F.bindsN fun _ _ _ _ _ _ us hl => match us, hl with | [_, _], _ => rfl⟩
  case len => exact fun vs H Q E h => sp_Desk_look_for_len h
  intro cdv A outer s H vs Q E hr h
  have hu := hu_of hr
  have hu64 := hr.units
  have hu65 := Pk.units65 hr
  refine ⟨_, PSs.nox ((pss_one (ps_if (pt_cmp (pc_dnotin hu (pv 1) (Pk.fldK K (pv 0) rfl))) Pk.pss_never pss_nil))), ?_⟩

  obtain ⟨a, m, h, kvs, ns, s, rfl, d, hs, q⟩ := h
  obtain ⟨dx, hi⟩ := d.ins
  obtain ⟨b, hb, _⟩ := d.has hs
  wtm_at "go"
  refine Pk.rd_fldA hi T.c_Desk T.n_Desk_having rfl ?_
  refine ⟨h, _, rfl, DGet.k (k := Sum.inr s) d.hav, ?_⟩
  rw [hb]
  wtm_at "go"
  exact q
end
end PkB
namespace PkB
open PySem PySem.Spec PyProof.Rows L2
theorem sc_Desk_chosen : FnScope ["self", "store", "name"] ["self", "store"] (defScope s_Desk_chosen) := ⟨rfl, rfl, rfl, by decide +kernel, rfl, by decide +kernel, by decide +kernel⟩
/-- no patches -/
def sp_Desk_chosen (K : PySem.W.Frag) : Sp := fun vs H Q _ => ∃ (a m h : Addr) (kvs : List (Key × V)) (ns : List Str) (s : Str), vs = [.ref a, .str s] ∧ Pk.DeskE K H a m h kvs ns ∧ ∀ (p : Addr) (H' : Hp), Pk.Ex H H' → H' p = some (.lst []) → Q (.ref p) H'
theorem sp_Desk_chosen_len {K : PySem.W.Frag} {vs : List V} {H : Hp} {Q : VK} {E : XK} (h : sp_Desk_chosen K vs H Q E) : vs.length = 2 := by
  obtain ⟨_, _, _, _, _, _, rfl, _⟩ := h
  rfl
section
variable {P : Program} {w : World} {K : PySem.W.Frag} {mg : Str → Option Value} {base : Heap}
theorem ok_Desk_chosen (T : Txt K mg) : Pk.Ok P w K mg base CX0 1 (He.fAd K ("Desk", some "chosen")) ["self", "store"] (sp_Desk_chosen K) := by
  obtain ⟨fd, F⟩ := T.F_Desk_chosen
  refine ⟨fd, F.ok sc_Desk_chosen ?len ?body, F.bindsN fun _ _ _ _ _ _ us hl => match us, hl with | [_, _], _ => rfl⟩
  case len => exact fun vs H Q E h => sp_Desk_chosen_len h
  intro cdv A outer s H vs Q E hr h
  have hu := hu_of hr
  have hu64 := hr.units
  have hu65 := Pk.units65 hr
  refine ⟨_, PSs.nox ((pss_one (ps_ret (pe_lock (pe_lc (own := [("name", 2)]) (g := gName 2) rfl sc_Desk_chosen.nd (pi_keys (Pk.fldK K (pv 0) rfl)) (blkOk_by (own := [("name", 2)]) (N := ["self", "store", "name"]) (sc := defScope s_Desk_chosen) (by decide +kernel)) (fun _ _ _ _ _ => (pg_name (i := 2) sc_Desk_chosen.nd rfl (Or.inl rfl))) (fun _ _ _ _ _ => (pts_one Pk.pt_never)) (fun _ _ _ _ _ => Pk.pe_never)))))), ?_⟩

  obtain ⟨a, m, h, kvs, ns, s, rfl, d, q⟩ := h
  obtain ⟨dx, hi⟩ := d.ins
  wtm_at "go"
  refine Pk.lock_none d.made (fun od Q' q' => ?_) fun p hp => q p _ (Pk.Ex.new hp) upd_same
  have ne : a ≠ m := by
    intro z
    rw [z, d.made] at hi
    cases hi
  wtm_at "go"
  refine Pk.rd_fldA ((upd_ne ne).trans hi) T.c_Desk T.n_Desk_made rfl ?_
  exact q'
end
end PkB
namespace PkB
open PySem PySem.Spec PyProof.Rows L2
theorem sc_Desk_begin : FnScope ["self", "store"] ["self", "store"] (defScope s_Desk_begin) := ⟨rfl, rfl, rfl, by decide +kernel, rfl, by decide +kernel, by decide +kernel⟩
/-- a store begins, or a bad or a taken name is told -/
def sp_Desk_begin (K : PySem.W.Frag) : Sp := fun vs H Q E => ∃ (a m h : Addr) (kvs : List (Key × V)) (ns : List Str) (s : Str), vs = [.ref a, .str s] ∧ Pk.DeskE K H a m h kvs ns ∧ s.length ≤ 1000 ∧ ns.length < 1000 ∧ (¬ Pk.Good s → E (.ref (He.ga K "BadName")) none H) ∧ (Pk.Good s → s ∈ ns → E (.ref (He.ga K "NameTaken")) none H) ∧ (Pk.Good s → s ∉ ns → ∀ (kvs' : List (Key × V)) (H' : Hp), (∀ b o, b ≠ h → H b = some o → H' b = some o) → Pk.DeskE K H' a m h kvs' (ns ++ [s]) → Q .non H')
theorem sp_Desk_begin_len {K : PySem.W.Frag} {vs : List V} {H : Hp} {Q : VK} {E : XK} (h : sp_Desk_begin K vs H Q E) : vs.length = 2 := by
  obtain ⟨_, _, _, _, _, _, rfl, _⟩ := h
  rfl
section
variable {P : Program} {w : World} {K : PySem.W.Frag} {mg : Str → Option Value} {base : Heap}
theorem ok_Desk_begin (T : Txt K mg) : Pk.Ok P w K mg base (L2N.CX P w) 2 (He.fAd K ("Desk", some "begin")) ["self", "store"] (sp_Desk_begin K) := by
  obtain ⟨fd, F⟩ := T.F_Desk_begin
  obtain ⟨fd_look_at, G_look_at, B_look_at⟩ := (ok_look_at (P := P) (w := w) (base := base) T).ex
  refine ⟨fd, F.ok sc_Desk_begin ?len ?body, F.bindsN fun _ _ _ _ _ _ us hl => match us, hl with | [_, _], _ => rfl⟩
  case len => exact fun vs H Q E h => sp_Desk_begin_len h
  intro cdv A outer s H vs Q E hr h
  have hu := hu_of hr
  have hu64 := hr.units
  have hu65 := Pk.units65 hr
  have tk0 : L2N.Takes (cxOf (L2N.CX P w) P w K mg base ["self", "store"] "Desk.begin" (defScope s_Desk_begin) (He.fAd K ("Desk", some "begin")) cdv A outer s H E) (fun cls d _ H => E cls d H) := L2N.takes_of rfl rfl rfl rfl
  refine ⟨_, (pss_cons (ps_expr (pe_call G_look_at (hr.mono (by decide)) rfl T.g_look_at T.k_look_at B_look_at .nil (L2N.passes_call tk0 (fun _ _ _ _ z => z)) (pa_cons (pv 1) pa_nil)))
      (pss_cons (ps_if (pt_cmp (pc_din hu (pv 1) (Pk.fldK K (pv 0) rfl))) (pss_one (L2N.ps_raise rfl tk0 (L2N.pmk_own PySem.F.excBase_ValueError T.x_NameTaken T.g_NameTaken T.k_NameTaken (raises_own T.s_NameTaken T.t_NameTaken) rfl))) pss_nil)
      (pss_one (ps_dput hu (Pk.fldK K (pv 0) rfl) (pv 1) pe_dnewK rfl)))), ?_⟩

  obtain ⟨a, m, h, kvs, ns, s, rfl, d, hl, hn, q1, q2, q3⟩ := h
  obtain ⟨dx, hi⟩ := d.ins
  wtm_at "go"
  refine ⟨s, rfl, hl, fun g => ?_, q1⟩
  wtm_at "go"
  refine Pk.rd_fldA hi T.c_Desk T.n_Desk_having rfl ?_
  refine ⟨h, _, rfl, DGet.k (k := Sum.inr s) d.hav, ?_⟩
  by_cases hs : s ∈ ns
  · obtain ⟨b, hb, _⟩ := d.has hs
    rw [hb]
    wtm_at "go"
    exact q2 g hs
  · rw [d.hasno hs]
    wtm_at "go"
    intro b n_b
    generalize q_b : upd _ b _ = H1
    have x_H1 := Pk.lay_ex n_b q_b
    have s_b := Pk.lay_at q_b
    clear q_b
    wtm_at "go"
    refine Pk.rd_fldA (x_H1 _ _ hi) T.c_Desk T.n_Desk_having rfl ?_
    wtm_at "go"
    have nb : b ≠ h := by
      rintro rfl
      rw [d.hav] at n_b
      cases n_b
    refine ⟨h, _, rfl, DPut.k (k := Sum.inr s) (x_H1 _ _ d.hav) (by rw [d.klen]; exact Pk.line_lt (by omega)), ?_⟩
    wtm_at "go"
    exact q3 g hs _ _ (fun c o hc ho => by rw [upd_ne hc]; exact x_H1 _ _ ho) (d.begin hs hn x_H1 s_b (fun c o hc ho => by rw [upd_ne hc]; exact ho) nb upd_same)
end
end PkB
namespace PkB
open PySem PySem.Spec PyProof.Rows L2
theorem sc_Desk_stores : FnScope ["self"] ["self"] (defScope s_Desk_stores) := ⟨rfl, rfl, rfl, by decide +kernel, rfl, by decide +kernel, by decide +kernel⟩
/-- the names -/
def sp_Desk_stores (K : PySem.W.Frag) : Sp := fun vs H Q _ => ∃ (a m h : Addr) (kvs : List (Key × V)) (ns : List Str), vs = [.ref a] ∧ Pk.DeskE K H a m h kvs ns ∧ ∀ (p : Addr), H p = none → Q (.ref p) (upd H p (.lst (ns.map V.str)))
theorem sp_Desk_stores_len {K : PySem.W.Frag} {vs : List V} {H : Hp} {Q : VK} {E : XK} (h : sp_Desk_stores K vs H Q E) : vs.length = 1 := by
  obtain ⟨_, _, _, _, _, rfl, _⟩ := h
  rfl
section
variable {P : Program} {w : World} {K : PySem.W.Frag} {mg : Str → Option Value} {base : Heap}
theorem ok_Desk_stores (T : Txt K mg) : Pk.Ok P w K mg base CX0 1 (He.fAd K ("Desk", some "stores")) ["self"] (sp_Desk_stores K) := by
  obtain ⟨fd, F⟩ := T.F_Desk_stores
  refine ⟨fd, F.ok sc_Desk_stores ?len ?body, F.bindsN fun _ _ _ _ _ _ us hl => match us, hl with | [_], _ => rfl⟩
  case len => exact fun vs H Q E h => sp_Desk_stores_len h
  intro cdv A outer s H vs Q E hr h
  have hu := hu_of hr
  have hu64 := hr.units
  have hu65 := Pk.units65 hr
  refine ⟨_, PSs.nox ((pss_one (ps_ret (pe_callTy (call_listD rfl) (by rfl) T.b_list Pk.bt_list (pa_cons (Pk.fldK K (pv 0) rfl) pa_nil))))), ?_⟩

  obtain ⟨a, m, h, kvs, ns, rfl, d, q⟩ := h
  obtain ⟨dx, hi⟩ := d.ins
  wtm_at "go"
  refine Pk.rd_fldA hi T.c_Desk T.n_Desk_having rfl ?_
  wtm_at "go"
  refine ⟨h, kvs, rfl, .inl d.hav, fun p hp => ?_⟩
  rw [d.names]
  exact q p hp
end
end PkB
namespace PkB
open PySem PySem.Spec PyProof.Rows L2
theorem sc_Desk_patches : FnScope ["self"] ["self"] (defScope s_Desk_patches) := ⟨rfl, rfl, rfl, by decide +kernel, rfl, by decide +kernel, by decide +kernel⟩
/-- no names -/
def sp_Desk_patches (K : PySem.W.Frag) : Sp := fun vs H Q _ => ∃ (a m h : Addr) (kvs : List (Key × V)) (ns : List Str), vs = [.ref a] ∧ Pk.DeskE K H a m h kvs ns ∧ ∀ (p : Addr), H p = none → Q (.ref p) (upd H p (.lst []))
theorem sp_Desk_patches_len {K : PySem.W.Frag} {vs : List V} {H : Hp} {Q : VK} {E : XK} (h : sp_Desk_patches K vs H Q E) : vs.length = 1 := by
  obtain ⟨_, _, _, _, _, rfl, _⟩ := h
  rfl
section
variable {P : Program} {w : World} {K : PySem.W.Frag} {mg : Str → Option Value} {base : Heap}
theorem ok_Desk_patches (T : Txt K mg) : Pk.Ok P w K mg base CX0 1 (He.fAd K ("Desk", some "patches")) ["self"] (sp_Desk_patches K) := by
  obtain ⟨fd, F⟩ := T.F_Desk_patches
  refine ⟨fd, F.ok sc_Desk_patches ?len ?body, F.bindsN fun _ _ _ _ _ _ us hl => match us, hl with | [_], _ => rfl⟩
  case len => exact fun vs H Q E h => sp_Desk_patches_len h
  intro cdv A outer s H vs Q E hr h
  have hu := hu_of hr
  have hu64 := hr.units
  have hu65 := Pk.units65 hr
  refine ⟨_, PSs.nox ((pss_one (ps_ret (pe_callTy (call_listD rfl) (by rfl) T.b_list Pk.bt_list (pa_cons (Pk.fldK K (pv 0) rfl) pa_nil))))), ?_⟩

  obtain ⟨a, m, h, kvs, ns, rfl, d, q⟩ := h
  obtain ⟨dx, hi⟩ := d.ins
  wtm_at "go"
  refine Pk.rd_fldA hi T.c_Desk T.n_Desk_made rfl ?_
  wtm_at "go"
  exact ⟨m, [], rfl, .inl d.made, fun p hp => q p hp⟩
end
end PkB
namespace PkB
open PySem PySem.Spec PyProof.Rows L2
theorem sc_Desk_has : FnScope ["self", "store", "patch"] ["self", "store"] (defScope s_Desk_has) := ⟨rfl, rfl, rfl, by decide +kernel, rfl, by decide +kernel, by decide +kernel⟩
/-- no patches -/
def sp_Desk_has (K : PySem.W.Frag) : Sp := fun vs H Q _ => ∃ (a m h : Addr) (kvs : List (Key × V)) (ns : List Str) (s : Str), vs = [.ref a, .str s] ∧ Pk.DeskE K H a m h kvs ns ∧ s ∈ ns ∧ ∀ (p : Addr) (H' : Hp), Pk.Ex H H' → H' p = some (.lst []) → Q (.ref p) H'
theorem sp_Desk_has_len {K : PySem.W.Frag} {vs : List V} {H : Hp} {Q : VK} {E : XK} (h : sp_Desk_has K vs H Q E) : vs.length = 2 := by
  obtain ⟨_, _, _, _, _, _, rfl, _⟩ := h
  rfl
section
variable {P : Program} {w : World} {K : PySem.W.Frag} {mg : Str → Option Value} {base : Heap}
theorem ok_Desk_has (T : Txt K mg) : Pk.Ok P w K mg base CX0 2 (He.fAd K ("Desk", some "has")) ["self", "store"] (sp_Desk_has K) := by
  obtain ⟨fd, F⟩ := T.F_Desk_has
  obtain ⟨fd_Desk_look_for, G_Desk_look_for, B_Desk_look_for⟩ := (ok_Desk_look_for (P := P) (w := w) (base := base) T).ex
  obtain ⟨fd_Desk_chosen, G_Desk_chosen, B_Desk_chosen⟩ := (ok_Desk_chosen (P := P) (w := w) (base := base) T).ex
  refine ⟨fd, F.ok sc_Desk_has ?len ?body, F.bindsN fun _ _ _ _ _ _ us hl => match us, hl with | [_, _], _ => rfl⟩
  case len => exact fun vs H Q E h => sp_Desk_has_len h
  intro cdv A outer s H vs Q E hr h
  have hu := hu_of hr
  have hu64 := hr.units
  have hu65 := Pk.units65 hr
  refine ⟨_, PSs.nox ((pss_cons (ps_expr (pe_meth (pv 0) T.c_Desk T.m_Desk_look_for G_Desk_look_for (hr.mono (by decide)) B_Desk_look_for .nil pass0 (pa_cons (pv 1) pa_nil)))
      (pss_one (ps_ret (pe_lc (own := [("patch", 2)]) (g := gName 2) (tt := tYes) rfl sc_Desk_has.nd (Pk.piL K (pe_meth (pv 0) T.c_Desk T.m_Desk_chosen G_Desk_chosen (hr.mono (by decide)) B_Desk_chosen .nil pass0 (pa_cons (pv 1) pa_nil))) (blkOk_by (own := [("patch", 2)]) (N := ["self", "store", "patch"]) (sc := defScope s_Desk_has) (by decide +kernel)) (fun _ _ _ _ _ => (pg_name (i := 2) sc_Desk_has.nd rfl (Or.inl rfl))) (fun _ _ _ _ _ => pts_nil) (fun _ _ _ _ _ => Pk.pe_never)))))), ?_⟩

  obtain ⟨a, m, h, kvs, ns, s, rfl, d, hs, q⟩ := h
  obtain ⟨dx, hi⟩ := d.ins
  wtm_at "go"
  refine Pk.rd_ins hi rfl ?_
  wtm_at "go"
  refine ⟨a, m, h, kvs, ns, s, rfl, d, hs, ?_⟩
  wtm_at "go"
  refine Pk.rd_ins hi rfl ?_
  wtm_at "go"
  refine ⟨a, m, h, kvs, ns, s, rfl, d, fun p1 H1 e1 s1 => ?_⟩
  wtm_at "go"
  refine ⟨⟨[], SqL.of s1⟩, Pk.lc_none (fun p hp => Pk.stopL ((Pk.Ex.new hp).seqL (SqL.of s1))) fun p hp => ?_⟩
  exact q p _ (e1.trans (Pk.Ex.new hp)) upd_same
end
end PkB
namespace PkB
open PySem PySem.Spec PyProof.Rows L2
theorem sc_Desk_row : FnScope ["self", "store", "file", "patches", "texts", "line", "name"] ["self", "store", "file"] (defScope s_Desk_row) := ⟨rfl, rfl, rfl, by decide +kernel, rfl, by decide +kernel, by decide +kernel⟩
/-- an empty row -/
def sp_Desk_row (K : PySem.W.Frag) : Sp := fun vs H Q _ => ∃ (a m h : Addr) (kvs : List (Key × V)) (ns : List Str) (s : Str) (f : V), vs = [.ref a, .str s, f] ∧ Pk.DeskE K H a m h kvs ns ∧ s ∈ ns ∧ ∀ (p : Addr) (H' : Hp), Pk.Ex H H' → H' p = some (.lst []) → Q (.ref p) H'
theorem sp_Desk_row_len {K : PySem.W.Frag} {vs : List V} {H : Hp} {Q : VK} {E : XK} (h : sp_Desk_row K vs H Q E) : vs.length = 3 := by
  obtain ⟨_, _, _, _, _, _, _, rfl, _⟩ := h
  rfl
section
variable {P : Program} {w : World} {K : PySem.W.Frag} {mg : Str → Option Value} {base : Heap}
theorem ok_Desk_row (T : Txt K mg) : Pk.Ok P w K mg base CX0 4 (He.fAd K ("Desk", some "row")) ["self", "store", "file"] (sp_Desk_row K) := by
  obtain ⟨fd, F⟩ := T.F_Desk_row
  obtain ⟨fd_Desk_look_for, G_Desk_look_for, B_Desk_look_for⟩ := (ok_Desk_look_for (P := P) (w := w) (base := base) T).ex
  obtain ⟨fd_Desk_chosen, G_Desk_chosen, B_Desk_chosen⟩ := (ok_Desk_chosen (P := P) (w := w) (base := base) T).ex
  obtain ⟨fd_lines_of, G_lines_of, B_lines_of⟩ := (ok_lines_of (P := P) (w := w) (base := base) T).ex
  obtain ⟨fd_row_of, G_row_of, B_row_of⟩ := (ok_row_of (P := P) (w := w) (base := base) T).ex
  refine ⟨fd, F.ok sc_Desk_row ?len ?body, F.bindsN fun _ _ _ _ _ _ us hl => match us, hl with | [_, _, _], _ => rfl⟩
  case len => exact fun vs H Q E h => sp_Desk_row_len h
  intro cdv A outer s H vs Q E hr h
  have hu := hu_of hr
  have hu64 := hr.units
  have hu65 := Pk.units65 hr
  refine ⟨_, PSs.nox ((pss_cons (ps_expr (pe_meth (pv 0) T.c_Desk T.m_Desk_look_for G_Desk_look_for (hr.mono (by decide)) B_Desk_look_for .nil pass0 (pa_cons (pv 1) pa_nil)))
      (pss_cons (ps_set (i := 3) sc_Desk_row.nd rfl (Or.inl rfl) (pe_meth (pv 0) T.c_Desk T.m_Desk_chosen G_Desk_chosen (hr.mono (by decide)) B_Desk_chosen .nil pass0 (pa_cons (pv 1) pa_nil)))
      (pss_cons (ps_set (i := 4) sc_Desk_row.nd rfl (Or.inr rfl) pe_dnewT)
      (pss_cons (ps_for PassesOwn.never rfl (Pk.piL K (pe_call G_lines_of (hr.mono (by decide)) rfl T.g_lines_of T.k_lines_of B_lines_of .nil pass0 (pa_cons (pv 3) (pa_cons (pv 2) pa_nil)))) (pg_name (i := 5) sc_Desk_row.nd rfl (Or.inl rfl)) Pk.pss_never)
      (pss_one (ps_ret (pe_lc (own := [("name", 6)]) (g := gName 6) (tt := tYes) rfl sc_Desk_row.nd (Pk.piL K (pe_call G_row_of (hr.mono (by decide)) rfl T.g_row_of T.k_row_of B_row_of .nil pass0 (pa_cons (pv 3) (pa_cons (pv 2) pa_nil)))) (blkOk_by (own := [("name", 6)]) (N := ["self", "store", "file", "patches", "texts", "line", "name"]) (sc := defScope s_Desk_row) (by decide +kernel)) (fun _ _ _ _ _ => (pg_name (i := 6) sc_Desk_row.nd rfl (Or.inl rfl))) (fun _ _ _ _ _ => pts_nil) (fun _ _ _ _ _ => Pk.pe_never))))))))), ?_⟩

  obtain ⟨a, m, h, kvs, ns, s, f, rfl, d, hs, q⟩ := h
  obtain ⟨dx, hi⟩ := d.ins
  wtm_at "go"
  refine Pk.rd_ins hi rfl ?_
  wtm_at "go"
  refine ⟨a, m, h, kvs, ns, s, rfl, d, hs, ?_⟩
  wtm_at "go"
  refine Pk.rd_ins hi rfl ?_
  wtm_at "go"
  refine ⟨a, m, h, kvs, ns, s, rfl, d, fun p1 H1 e1 s1 => ?_⟩
  wtm_at "go"
  intro p2 n_p2
  generalize q_p2 : upd _ p2 _ = H2
  have x_H2 := Pk.lay_ex n_p2 q_p2
  have s_p2 := Pk.lay_at q_p2
  clear q_p2
  wtm_at "go"
  have s2 := SqL.of (K := K) (x_H2 _ _ s1)
  refine ⟨p1, f, rfl, s2, fun p3 H3 e3 s3 => ?_⟩
  wtm_at "go"
  refine ⟨⟨[], SqL.of s3⟩, Pk.for_none (Pk.stopL (SqL.of s3)) ?_⟩
  wtm_at "go"
  refine ⟨p1, f, rfl, e3.seqL s2, fun p4 H4 e4 s4 => ?_⟩
  wtm_at "go"
  refine ⟨⟨[], SqL.of s4⟩, Pk.lc_none (fun p hp => Pk.stopL ((Pk.Ex.new hp).seqL (SqL.of s4))) fun p hp => ?_⟩
  exact q p _ (e1.trans (x_H2.trans (e3.trans (e4.trans (Pk.Ex.new hp))))) upd_same
end
end PkB
namespace PkB
open PySem PySem.Spec PyProof.Rows L2
theorem sc_Desk_files : FnScope ["self", "store", "names", "patch"] ["self", "store"] (defScope s_Desk_files) := ⟨rfl, rfl, rfl, by decide +kernel, rfl, by decide +kernel, by decide +kernel⟩
/-- no files -/
def sp_Desk_files (K : PySem.W.Frag) : Sp := fun vs H Q _ => ∃ (a m h : Addr) (kvs : List (Key × V)) (ns : List Str) (s : Str), vs = [.ref a, .str s] ∧ Pk.DeskE K H a m h kvs ns ∧ s ∈ ns ∧ ∀ (p : Addr) (H' : Hp), Pk.Ex H H' → H' p = some (.lst []) → Q (.ref p) H'
theorem sp_Desk_files_len {K : PySem.W.Frag} {vs : List V} {H : Hp} {Q : VK} {E : XK} (h : sp_Desk_files K vs H Q E) : vs.length = 2 := by
  obtain ⟨_, _, _, _, _, _, rfl, _⟩ := h
  rfl
section
variable {P : Program} {w : World} {K : PySem.W.Frag} {mg : Str → Option Value} {base : Heap}
theorem ok_Desk_files (T : Txt K mg) : Pk.Ok P w K mg base CX0 5 (He.fAd K ("Desk", some "files")) ["self", "store"] (sp_Desk_files K) := by
  obtain ⟨fd, F⟩ := T.F_Desk_files
  obtain ⟨fd_Desk_look_for, G_Desk_look_for, B_Desk_look_for⟩ := (ok_Desk_look_for (P := P) (w := w) (base := base) T).ex
  obtain ⟨fd_Desk_chosen, G_Desk_chosen, B_Desk_chosen⟩ := (ok_Desk_chosen (P := P) (w := w) (base := base) T).ex
  obtain ⟨fd_Desk_row, G_Desk_row, B_Desk_row⟩ := (ok_Desk_row (P := P) (w := w) (base := base) T).ex
  refine ⟨fd, F.ok sc_Desk_files ?len ?body, F.bindsN fun _ _ _ _ _ _ us hl => match us, hl with | [_, _], _ => rfl⟩
  case len => exact fun vs H Q E h => sp_Desk_files_len h
  intro cdv A outer s H vs Q E hr h
  have hu := hu_of hr
  have hu64 := hr.units
  have hu65 := Pk.units65 hr
  refine ⟨_, PSs.nox ((pss_cons (ps_expr (pe_meth (pv 0) T.c_Desk T.m_Desk_look_for G_Desk_look_for (hr.mono (by decide)) B_Desk_look_for .nil pass0 (pa_cons (pv 1) pa_nil)))
      (pss_cons (ps_set (i := 2) sc_Desk_files.nd rfl (Or.inl rfl) pe_dnewK)
      (pss_cons (ps_for PassesOwn.never rfl (Pk.piL K (pe_meth (pv 0) T.c_Desk T.m_Desk_chosen G_Desk_chosen (hr.mono (by decide)) B_Desk_chosen .nil pass0 (pa_cons (pv 1) pa_nil))) (pg_name (i := 3) sc_Desk_files.nd rfl (Or.inl rfl)) Pk.pss_never)
      (pss_one (ps_ret (pe_callB (call_sortedD rfl) (by rfl) T.b_sorted Pk.bt_sorted (pa_cons (pv 2) pa_nil)))))))), ?_⟩

  obtain ⟨a, m, h, kvs, ns, s, rfl, d, hs, q⟩ := h
  obtain ⟨dx, hi⟩ := d.ins
  wtm_at "go"
  refine Pk.rd_ins hi rfl ?_
  wtm_at "go"
  refine ⟨a, m, h, kvs, ns, s, rfl, d, hs, ?_⟩
  wtm_at "go"
  intro p0 n_p0
  generalize q_p0 : upd _ p0 _ = H0
  have x_H0 := Pk.lay_ex n_p0 q_p0
  have s_p0 := Pk.lay_at q_p0
  clear q_p0
  wtm_at "go"
  refine Pk.rd_ins (x_H0 _ _ hi) rfl ?_
  wtm_at "go"
  refine ⟨a, m, h, kvs, ns, s, rfl, d.ex x_H0, fun p1 H1 e1 s1 => ?_⟩
  wtm_at "go"
  refine ⟨⟨[], SqL.of s1⟩, Pk.for_none (Pk.stopL (SqL.of s1)) ?_⟩
  wtm_at "go"
  refine ⟨p0, [], [], rfl, .inl (e1 _ _ s_p0), rfl, by decide, fun ys p hp _ hn => ?_⟩
  have ey : ys = [] := List.Perm.eq_nil hp
  subst ey
  exact q p _ (x_H0.trans (e1.trans (Pk.Ex.new hn))) upd_same
end
end PkB
namespace PkB
open PySem PySem.Spec PyProof.Rows L2
theorem sc_law_cell_at : FnScope ["script", "k"] ["script", "k"] (defScope s_law_cell_at) := ⟨rfl, rfl, rfl, by decide +kernel, rfl, by decide +kernel, by decide +kernel⟩
/-- a cell of the script, or nought -/
def sp_law_cell_at (K : PySem.W.Frag) : Sp := fun vs H Q _ => ∃ (a : Addr) (ns : List Int) (k : Int), vs = [.ref a, .int k] ∧ SqL K H a (ns.map V.int) ∧ 0 ≤ k ∧ ∀ n, Q (.int n) H
theorem sp_law_cell_at_len {K : PySem.W.Frag} {vs : List V} {H : Hp} {Q : VK} {E : XK} (h : sp_law_cell_at K vs H Q E) : vs.length = 2 := by
  obtain ⟨_, _, _, rfl, _⟩ := h
  rfl
section
variable {P : Program} {w : World} {K : PySem.W.Frag} {mg : Str → Option Value} {base : Heap}
theorem ok_law_cell_at (T : Txt K mg) : Pk.Ok P w K mg base CX0 1 (He.fAd K ("_law_cell_at", none)) ["script", "k"] (sp_law_cell_at K) := by
  obtain ⟨fd, F⟩ := T.F_law_cell_at
  refine ⟨fd, F.ok sc_law_cell_at ?len ?body, F.bindsN fun _ _ _ _ _ _ us hl => match us, hl with | [_, _], _ => rfl⟩
  case len => exact fun vs H Q E h => sp_law_cell_at_len h
  intro cdv A outer s H vs Q E hr h
  have hu := hu_of hr
  have hu64 := hr.units
  have hu65 := Pk.units65 hr
  refine ⟨_, PSs.nox ((pss_cons (ps_if (pt_cmpR op_lt (pv 1) (pe_callB (Pk.lenK K) (by rfl) T.b_len Pk.bt_len (pa_cons (pv 0) pa_nil)) (nomark _)) (pss_one (ps_ret (pe_ix (Pk.ixL K) (pv 0) (pv 1) (fun _ _ => rfl)))) pss_nil)
      (pss_one (ps_ret pe_int)))), ?_⟩
  obtain ⟨a, ns, k, rfl, hS, h0, q⟩ := h
  wtm_at "go"
  refine Pk.rd_dec (fun c => ?_) (fun c => ?_)
  · wtm_at "go"
    rw [List.length_map] at c
    refine Pk.rd_ixL hS (Pk.at_map h0 (by omega)) ?_
    wtm_at "go"
    exact q _
  · wtm_at "go"
    exact q _
end
end PkB
namespace PkB
open PySem PySem.Spec PyProof.Rows L2
theorem sc_law_name : FnScope ["cell", "k", "signs", "size", "base", "far", "found", "j"] ["cell", "k"] (defScope s_law_name) := ⟨rfl, rfl, rfl, by decide +kernel, rfl, by decide +kernel, by decide +kernel⟩
/-- some good name -/
def sp_law_name (K : PySem.W.Frag) : Sp := fun vs H Q _ => ∃ (c k : Int), vs = [.int c, .int k] ∧ 0 ≤ c ∧ c < 20736 ∧ 0 ≤ k ∧ ∀ s : Str, Pk.Good s → Q (.str s) H
theorem sp_law_name_len {K : PySem.W.Frag} {vs : List V} {H : Hp} {Q : VK} {E : XK} (h : sp_law_name K vs H Q E) : vs.length = 2 := by
  obtain ⟨_, _, rfl, _⟩ := h
  rfl
section
variable {P : Program} {w : World} {K : PySem.W.Frag} {mg : Str → Option Value} {base : Heap}
theorem ok_law_name (T : Txt K mg) : Pk.Ok P w K mg base CX0 1 (He.fAd K ("_law_name", none)) ["cell", "k"] (sp_law_name K) := by
  obtain ⟨fd, F⟩ := T.F_law_name
  refine ⟨fd, F.ok sc_law_name ?len ?body, F.bindsN fun _ _ _ _ _ _ us hl => match us, hl with | [_, _], _ => rfl⟩
  case len => exact fun vs H Q E h => sp_law_name_len h
  intro cdv A outer s H vs Q E hr h
  have hu := hu_of hr
  have hu64 := hr.units
  have hu65 := Pk.units65 hr
  refine ⟨_, PSs.nox ((pss_cons (ps_set (i := 2) sc_law_name.nd rfl (Or.inl rfl) pe_str)
      (pss_cons (ps_set (i := 3) sc_law_name.nd rfl (Or.inl rfl) (pe_op op_add pe_int (pe_op op_mod (pv 0) pe_int)))
      (pss_cons (ps_set (i := 4) sc_law_name.nd rfl (Or.inl rfl) (pe_op op_fdiv (pv 0) pe_int))
      (pss_cons (ps_set (i := 5) sc_law_name.nd rfl (Or.inl rfl) (pe_op op_mul (pe_op op_mul (pe_op op_mod (pe_op op_fdiv (pv 0) pe_int) pe_int) (pv 1)) pe_int))
      (pss_cons (ps_set (i := 6) sc_law_name.nd rfl (Or.inl rfl) pe_str)
      (pss_cons (ps_for PassesOwn.never rfl (pi_range1 rfl T.b_range (pa_cons (pv 3) pa_nil)) (pg_name (i := 7) sc_law_name.nd rfl (Or.inl rfl)) (pss_one (ps_if (pt_cmpR op_eq (pv 7) (pe_op op_mod (pe_op op_fdiv (pv 0) pe_int) (pv 3)) (nomark _)) (pss_one (ps_set (i := 6) sc_law_name.nd rfl (Or.inl rfl) (pe_op op_add_str (pv 6) (pe_ix ix_str (pv 2) (pe_op op_mod (pe_op op_add (pv 1) (pv 4)) pe_int) (fun _ _ => rfl))))) (pss_one (ps_set (i := 6) sc_law_name.nd rfl (Or.inl rfl) (pe_op op_add_str (pv 6) (pe_ix ix_str (pv 2) (pe_op op_mod (pe_op op_add (pe_op op_add (pv 4) (pe_op op_mul pe_int (pv 7))) (pv 5)) pe_int) (fun _ _ => rfl))))))))
      (pss_one (ps_ret (pv 6)))))))))), ?_⟩
  obtain ⟨c, k, rfl, c0, c1, k0, q⟩ := h
  have m0 := Int.emod_nonneg c (show (12 : Int) ≠ 0 by decide)
  have m1 := Int.emod_lt_of_pos c (show (0 : Int) < 12 by decide)
  have b0 : 0 ≤ c / 144 := Int.ediv_nonneg c0 (by decide)
  wtm_at "go"
  generalize c / 5184 % 2 * k * 7 = far
  generalize c / 144 = base at b0 ⊢
  generalize hz : 1 + c % 12 = size
  have z0 : 1 ≤ size := by omega
  have z1 : size ≤ 12 := by omega
  refine ⟨by omega, by omega, for_range (lo := 0) (n := size.toNat) (fun i σ H' => H' = H ∧ ∃ (s : Str) (v : Option V), σ = [some (.int c), some (.int k), some (.str Pk.SG), some (.int size), some (.int base), some (.int far), some (.str s), v] ∧ s.length = i ∧ ∀ d ∈ s.cps.toList, d ∈ Pk.SG.cps.toList) ?_ ?_ ?_⟩
  · exact ⟨rfl, Str.ofString "", none, rfl, rfl, fun d hd => absurd (show d ∈ ([] : List Nat) from hd) List.not_mem_nil⟩
  · rintro i σ H' hi ⟨rfl, s, v, rfl, hs, hg⟩
    have key : ∀ j : Int, ∀ v2 : Option V, (∀ (QQ : Str → Prop), (∀ s' : Str, s'.length = i + 1 → (∀ d ∈ s'.cps.toList, d ∈ Pk.SG.cps.toList) → QQ s') → ∃ (e : Nat), atI Pk.SG.cps.toList (j % 36) = some e ∧ QQ (s ++ (⟨#[e]⟩ : Str))) := by
      intro j v2 QQ hQ
      obtain ⟨e, he, hm⟩ := Pk.SG_at (Int.emod_nonneg j (show (36 : Int) ≠ 0 by decide)) (Int.emod_lt_of_pos j (show (0 : Int) < 36 by decide))
      refine ⟨e, he, hQ _ ?_ ?_⟩
      · rw [Pk.str_app_len, hs]
        rfl
      · intro d hd
        rw [Pk.str_app] at hd
        rcases List.mem_append.mp hd with hd | hd
        · exact hg d hd
        · have hd2 : d ∈ [e] := hd
          rw [List.mem_singleton] at hd2
          rw [hd2]
          exact hm
    wtm_at "go"
    refine Pk.rd_dec (fun cj => ?_) (fun cj => ?_)
    · wtm_at "go"
      obtain ⟨e, he, hq⟩ := key (k + base) none (fun s' => (H' = H' ∧ ∃ (s : Str) (v : Option V), [some (V.int c), some (V.int k), some (V.str Pk.SG), some (V.int size), some (V.int base), some (V.int far), some (V.str s'), some (V.int (0 + (i : Int)))] = [some (.int c), some (.int k), some (.str Pk.SG), some (.int size), some (.int base), some (.int far), some (.str s), v] ∧ s.length = i + 1 ∧ ∀ d ∈ s.cps.toList, d ∈ Pk.SG.cps.toList)) (fun s' h1 h2 => ⟨rfl, s', _, rfl, h1, h2⟩)
      refine Pk.rd_ixS (by show Pk.SG.length ≤ sizeLine; rw [Pk.SG_len]; exact Pk.line_le (by decide)) he ?_
      refine ⟨s, _, rfl, rfl, Pk.line_le (by rw [hs]; show i + 1 ≤ 100000; omega), ?_⟩
      wtm_at "go"
      exact hq
    · wtm_at "go"
      obtain ⟨e, he, hq⟩ := key (base + 5 * (0 + (i : Int)) + far) none (fun s' => (H' = H' ∧ ∃ (s : Str) (v : Option V), [some (V.int c), some (V.int k), some (V.str Pk.SG), some (V.int size), some (V.int base), some (V.int far), some (V.str s'), some (V.int (0 + (i : Int)))] = [some (.int c), some (.int k), some (.str Pk.SG), some (.int size), some (.int base), some (.int far), some (.str s), v] ∧ s.length = i + 1 ∧ ∀ d ∈ s.cps.toList, d ∈ Pk.SG.cps.toList)) (fun s' h1 h2 => ⟨rfl, s', _, rfl, h1, h2⟩)
      refine Pk.rd_ixS (by show Pk.SG.length ≤ sizeLine; rw [Pk.SG_len]; exact Pk.line_le (by decide)) he ?_
      refine ⟨s, _, rfl, rfl, Pk.line_le (by rw [hs]; show i + 1 ≤ 100000; omega), ?_⟩
      wtm_at "go"
      exact hq
  · rintro σ H' ⟨rfl, s, v, rfl, hs, hg⟩
    wtm_at "go"
    exact q s ⟨by omega, by omega, hg⟩
end
end PkB
namespace PkB
open PySem PySem.Spec PyProof.Rows L2
theorem sc_law_names_are : FnScope ["found", "due", "name"] ["found", "due"] (defScope s_law_names_are) := ⟨rfl, rfl, rfl, by decide +kernel, rfl, by decide +kernel, by decide +kernel⟩
/-- the very names -/
def sp_law_names_are (K : PySem.W.Frag) : Sp := fun vs H Q _ => ∃ (p q : Addr) (ns : List Str), vs = [.ref p, .ref q] ∧ H p = some (.lst (ns.map V.str)) ∧ H q = some (.lst (ns.map V.str)) ∧ (∀ t ∈ ns, Pk.TOk t) ∧ Q (.bl true) H
theorem sp_law_names_are_len {K : PySem.W.Frag} {vs : List V} {H : Hp} {Q : VK} {E : XK} (h : sp_law_names_are K vs H Q E) : vs.length = 2 := by
  obtain ⟨_, _, _, rfl, _⟩ := h
  rfl
section
variable {P : Program} {w : World} {K : PySem.W.Frag} {mg : Str → Option Value} {base : Heap}
theorem ok_law_names_are (T : Txt K mg) : Pk.Ok P w K mg base CX0 1 (He.fAd K ("_law_names_are", none)) ["found", "due"] (sp_law_names_are K) := by
  obtain ⟨fd, F⟩ := T.F_law_names_are
  refine ⟨fd, F.ok sc_law_names_are ?len ?body, F.bindsN fun _ _ _ _ _ _ us hl => match us, hl with | [_, _], _ => rfl⟩
  case len => exact fun vs H Q E h => sp_law_names_are_len h
  intro cdv A outer s H vs Q E hr h
  have hu := hu_of hr
  have hu64 := hr.units
  have hu65 := Pk.units65 hr
  refine ⟨_, PSs.nox ((pss_cons (ps_if (PW.pt (pw_or (pt_not (pt_val (pe_callB (Pk.isiK K) (by rfl) T.b_isinstance Pk.bt_isinstance (pa_cons (pv 0) (pa_cons (pe_bltn (v := .ty "list") (by rfl) T.b_list Pk.bt_list rfl) pa_nil))))) (pw_or1 (pt_cmpR op_ne (pe_callB (Pk.lenK K) (by rfl) T.b_len Pk.bt_len (pa_cons (pv 0) pa_nil)) (pe_callB (Pk.lenK K) (by rfl) T.b_len Pk.bt_len (pa_cons (pv 1) pa_nil)) (nomark _))))) (pss_one (ps_ret pe_bl)) pss_nil)
      (pss_cons (ps_for PassesOwn.never rfl (Pk.piL K (pv 0)) (pg_name (i := 2) sc_law_names_are.nd rfl (Or.inl rfl)) (pss_one (ps_if (pt_not (pt_val (pe_callB (Pk.isiK K) (by rfl) T.b_isinstance Pk.bt_isinstance (pa_cons (pv 2) (pa_cons (pe_bltn (v := .ty "str") (by rfl) T.b_str Pk.bt_str rfl) pa_nil))))) (pss_one (ps_ret pe_bl)) pss_nil)))
      (pss_one (ps_ret (pe_cmpR (Pk.eqDK K hu64) (pv 0) (pv 1) (nomark _))))))), ?_⟩
  obtain ⟨p, q, ns, rfl, hp, hq, ht, qq⟩ := h
  have sp := SqL.of (K := K) hp
  have sq := SqL.of (K := K) hq
  wtm_at "go"
  refine ⟨_, _, _, _, _, rfl, .ty "list", .base (.lst hp), kit_ty (a := "list") (b := "list") (r := true) (by decide +kernel), ?_⟩
  wtm_at "go"
  refine Pk.rd_nyes rfl ?_
  wtm_at "go"
  refine ⟨⟨_, sp⟩, for_list (K := K) (a := p) (xs := ns.map V.str) (fun i σ H' => H' = H ∧ ∃ v : Option V, σ = [some (.ref p), some (.ref q), v]) ⟨rfl, none, rfl⟩ (fun i σ H' _ z => by rw [z.1]; exact sp) ?_ ?_⟩
  · rintro i x σ H' hx ⟨rfl, v, rfl⟩
    rw [List.getElem?_map] at hx
    cases e : ns[i]? with
    | none =>
      rw [e] at hx
      cases hx
    | some t =>
      rw [e] at hx
      cases hx
      wtm_at "go"
      refine ⟨_, _, _, _, _, rfl, .ty "str", .base (.str t), kit_ty (a := "str") (b := "str") (r := true) (by decide +kernel), ?_⟩
      wtm_at "go"
      exact ⟨rfl, _, rfl⟩
  · rintro σ H' ⟨rfl, v, rfl⟩
    wtm_at "go"
    refine Pk.rd_eqSelf (.lst sp (Pk.dp_strs _)) (.lst sq (Pk.dp_strs _)) (Pk.shaped_strs ht) ?_
    exact qq
end
end PkB
namespace PkB
open PySem PySem.Spec PyProof.Rows L2
theorem sc_law_which : FnScope ["e", "some"] ["e"] (defScope s_law_which) := ⟨rfl, rfl, rfl, by decide +kernel, rfl, by decide +kernel, by decide +kernel⟩
def exN (n : Nat) : Str := if n = 0 then "BadName" else "NameTaken"
/-- the classes that the caught exception is of -/
def sp_law_which (K : PySem.W.Frag) (a : Addr) (cls : Value) (d : Option Addr) : Sp := fun vs H Q _ => ∃ (n : Nat), n < 2 ∧ vs = [.ref a] ∧ cls = .ref (He.ga K (exN n)) ∧ d = none ∧ ∀ (p : Addr) (H' : Hp), Pk.Ex H H' → H' p = some (.lst ((Pk.dueL (n : Int)).map V.bl)) → Q (.ref p) H'
section
variable {P : Program} {w : World} {K : PySem.W.Frag} {mg : Str → Option Value} {base : Heap}
theorem exAll_of (T : Txt K mg) {n : Nat} (h : n < 2) : exAll K (exN n) = true := by
  obtain ⟨h1, h2⟩ := Bool.and_eq_true_iff.mp T.xx
  have c : n = 0 ∨ n = 1 := by omega
  rcases c with rfl | rfl
  · exact h1
  · exact h2
theorem okP_law_which (T : Txt K mg) {a : Addr} {oe : Obj} {cls : Value} {d : Option Addr} (hz0 : Zc cls d oe) (hf : ∃ vs, oe.data = .fields vs) :
    ∃ fd, Pk.FnP P w K mg base CX0 1 (He.fAd K ("_law_which", none)) fd ["e"] (sp_law_which K a cls d) (a, oe) ∧ Binds K fd ["e"] [] := by
  obtain ⟨fd, F⟩ := T.F_law_which
  refine ⟨fd, Pk.FnP.of F sc_law_which ?len ?body, F.bindsN fun _ _ _ _ _ _ us hl => match us, hl with | [_], _ => rfl⟩
  case len =>
    rintro vs H Q E ⟨_, _, rfl, _⟩
    rfl
  rintro cdv A outer s H vs Q E hot room ⟨n, hn, rfl, rfl, rfl, q⟩
  have hx := exAll_of T hn
  have hc : ExcC K (He.ga K (exN n)) := exCls_ok (Bool.and_eq_true_iff.mp hx).1
  have hz : Zc (.ref (He.ga K (exN n))) none oe := hz0
  refine ⟨_, PSs.nox ((pss_cons (ps_set (i := 1) sc_law_which.nd rfl (Or.inl rfl) (pe_lst (pa_cons (pe_callB (Pk.isP K rfl hc hz hf (List.mem_singleton.mpr rfl)) (by rfl) T.b_isinstance Pk.bt_isinstance (pa_cons (pv 0) (pa_cons (pe_glob (v := V.ref (He.ga K "BadName")) rfl T.g_BadName rfl) pa_nil))) (pa_cons (pe_callB (Pk.isP K rfl hc hz hf (List.mem_singleton.mpr rfl)) (by rfl) T.b_isinstance Pk.bt_isinstance (pa_cons (pv 0) (pa_cons (pe_glob (v := V.ref (He.ga K "NameTaken")) rfl T.g_NameTaken rfl) pa_nil))) (pa_cons (pe_callB (Pk.isP K rfl hc hz hf (List.mem_singleton.mpr rfl)) (by rfl) T.b_isinstance Pk.bt_isinstance (pa_cons (pv 0) (pa_cons (pe_glob (v := V.ref (He.ga K "NoStore")) rfl T.g_NoStore rfl) pa_nil))) (pa_cons (pe_callB (Pk.isP K rfl hc hz hf (List.mem_singleton.mpr rfl)) (by rfl) T.b_isinstance Pk.bt_isinstance (pa_cons (pv 0) (pa_cons (pe_glob (v := V.ref (He.ga K "NoPatch")) rfl T.g_NoPatch rfl) pa_nil))) pa_nil))))))
      (pss_cons (ps_set (i := 1) sc_law_which.nd rfl (Or.inl rfl) (pe_op op_cat (pv 1) (pe_lst (pa_cons (pe_callB (Pk.isP K rfl hc hz hf (List.mem_singleton.mpr rfl)) (by rfl) T.b_isinstance Pk.bt_isinstance (pa_cons (pv 0) (pa_cons (pe_glob (v := V.ref (He.ga K "NoLine")) rfl T.g_NoLine rfl) pa_nil))) (pa_cons (pe_callB (Pk.isP K rfl hc hz hf (List.mem_singleton.mpr rfl)) (by rfl) T.b_isinstance Pk.bt_isinstance (pa_cons (pv 0) (pa_cons (pe_glob (v := V.ref (He.ga K "Unsettled")) rfl T.g_Unsettled rfl) pa_nil))) (pa_cons (pe_callB (Pk.isP K rfl hc hz hf (List.mem_singleton.mpr rfl)) (by rfl) T.b_isinstance Pk.bt_isinstance (pa_cons (pv 0) (pa_cons (pe_glob (v := V.ref (He.ga K "Same")) rfl T.g_Same rfl) pa_nil))) (pa_cons (pe_callB (Pk.isP K rfl hc hz hf (List.mem_singleton.mpr rfl)) (by rfl) T.b_isinstance Pk.bt_isinstance (pa_cons (pv 0) (pa_cons (pe_glob (v := V.ref (He.ga K "Leant")) rfl T.g_Leant rfl) pa_nil))) pa_nil)))))))
      (pss_one (ps_ret (pe_op op_cat (pv 1) (pe_lst (pa_cons (pe_callB (Pk.isP K rfl hc hz hf (List.mem_singleton.mpr rfl)) (by rfl) T.b_isinstance Pk.bt_isinstance (pa_cons (pv 0) (pa_cons (pe_bltn (v := .ty "ValueError") (by rfl) T.b_ValueError Pk.bt_ValueError rfl) pa_nil))) pa_nil)))))))), ?_⟩
  have k : ∀ C ∈ whichs, PySem.W.kitOne K (.ref (He.ga K (exN n))) (.ref (He.ga K C)) = some (decide (C = exN n)) := fun C hC => exOne_ok hx hC
  have kv := exVal_ok hx
  wtm_at "go"
  refine ⟨_, _, _, rfl, fun _ r => r, k "BadName" (by decide), ?_⟩
  wtm_at "go"
  refine ⟨_, _, _, rfl, fun _ r => r, k "NameTaken" (by decide), ?_⟩
  wtm_at "go"
  refine ⟨_, _, _, rfl, fun _ r => r, k "NoStore" (by decide), ?_⟩
  wtm_at "go"
  refine ⟨_, _, _, rfl, fun _ r => r, k "NoPatch" (by decide), ?_⟩
  wtm_at "go"
  refine ⟨Nat.le_of_ble_eq_true rfl, fun p0 n_p0 => ?_⟩
  generalize q_p0 : upd _ p0 _ = H0
  have x_H0 := Pk.lay_ex n_p0 q_p0
  have s_p0 := Pk.lay_at q_p0
  clear q_p0
  wtm_at "go"
  refine ⟨_, _, _, rfl, fun _ r => r, k "NoLine" (by decide), ?_⟩
  wtm_at "go"
  refine ⟨_, _, _, rfl, fun _ r => r, k "Unsettled" (by decide), ?_⟩
  wtm_at "go"
  refine ⟨_, _, _, rfl, fun _ r => r, k "Same" (by decide), ?_⟩
  wtm_at "go"
  refine ⟨_, _, _, rfl, fun _ r => r, k "Leant" (by decide), ?_⟩
  wtm_at "go"
  refine ⟨Nat.le_of_ble_eq_true rfl, fun p1 n_p1 => ?_⟩
  generalize q_p1 : upd _ p1 _ = H1
  have x_H1 := Pk.lay_ex n_p1 q_p1
  have s_p1 := Pk.lay_at q_p1
  clear q_p1
  wtm_at "go"
  refine Pk.rd_cat (x_H1 _ _ s_p0) s_p1 (Pk.line_le (by simp only [List.length_cons, List.length_nil]; omega)) ?_
  intro p2 n_p2
  generalize q_p2 : upd _ p2 _ = H2
  have x_H2 := Pk.lay_ex n_p2 q_p2
  have s_p2 := Pk.lay_at q_p2
  clear q_p2
  wtm_at "go"
  refine ⟨_, _, _, rfl, fun _ r => r, kv, ?_⟩
  wtm_at "go"
  refine ⟨Nat.le_of_ble_eq_true rfl, fun p3 n_p3 => ?_⟩
  generalize q_p3 : upd _ p3 _ = H3
  have x_H3 := Pk.lay_ex n_p3 q_p3
  have s_p3 := Pk.lay_at q_p3
  clear q_p3
  wtm_at "go"
  refine Pk.rd_cat (x_H3 _ _ s_p2) s_p3 (Pk.line_le (by simp only [List.length_append, List.length_cons, List.length_nil]; omega)) ?_
  intro p4 n_p4
  generalize q_p4 : upd _ p4 _ = H4
  have x_H4 := Pk.lay_ex n_p4 q_p4
  have s_p4 := Pk.lay_at q_p4
  clear q_p4
  wtm_at "go"
  refine q p4 _ (x_H0.trans (x_H1.trans (x_H2.trans (x_H3.trans x_H4)))) ?_
  rw [s_p4]
  have c : n = 0 ∨ n = 1 := by omega
  rcases c with rfl | rfl
  · have e : ([decide ((Str.ofString "BadName" : Str) = exN 0), decide ((Str.ofString "NameTaken" : Str) = exN 0), decide ((Str.ofString "NoStore" : Str) = exN 0), decide ((Str.ofString "NoPatch" : Str) = exN 0), decide ((Str.ofString "NoLine" : Str) = exN 0), decide ((Str.ofString "Unsettled" : Str) = exN 0), decide ((Str.ofString "Same" : Str) = exN 0), decide ((Str.ofString "Leant" : Str) = exN 0), true] : List Bool) = Pk.dueL ((0 : Nat) : Int) := by decide +kernel
    rw [← e]
    rfl
  · have e : ([decide ((Str.ofString "BadName" : Str) = exN 1), decide ((Str.ofString "NameTaken" : Str) = exN 1), decide ((Str.ofString "NoStore" : Str) = exN 1), decide ((Str.ofString "NoPatch" : Str) = exN 1), decide ((Str.ofString "NoLine" : Str) = exN 1), decide ((Str.ofString "Unsettled" : Str) = exN 1), decide ((Str.ofString "Same" : Str) = exN 1), decide ((Str.ofString "Leant" : Str) = exN 1), true] : List Bool) = Pk.dueL ((1 : Nat) : Int) := by decide +kernel
    rw [← e]
    rfl
end
end PkB
namespace PkB
open PySem PySem.Spec PyProof.Rows L2
theorem sc_law_due : FnScope ["place", "k"] ["place"] (defScope s_law_due) := ⟨rfl, rfl, rfl, by decide +kernel, rfl, by decide +kernel, by decide +kernel⟩
/-- what is due -/
def sp_law_due (K : PySem.W.Frag) : Sp := fun vs H Q _ => ∃ (n : Int), vs = [.int n] ∧ ∀ p, H p = none → Q (.ref p) (upd H p (.lst ((Pk.dueL n).map V.bl)))
theorem sp_law_due_len {K : PySem.W.Frag} {vs : List V} {H : Hp} {Q : VK} {E : XK} (h : sp_law_due K vs H Q E) : vs.length = 1 := by
  obtain ⟨_, rfl, _⟩ := h
  rfl
section
variable {P : Program} {w : World} {K : PySem.W.Frag} {mg : Str → Option Value} {base : Heap}
theorem ok_law_due (T : Txt K mg) : Pk.Ok P w K mg base CX0 1 (He.fAd K ("_law_due", none)) ["place"] (sp_law_due K) := by
  obtain ⟨fd, F⟩ := T.F_law_due
  refine ⟨fd, F.ok sc_law_due ?len ?body, F.bindsN fun _ _ _ _ _ _ us hl => match us, hl with | [_], _ => rfl⟩
  case len => exact fun vs H Q E h => sp_law_due_len h
  intro cdv A outer s H vs Q E hr h
  have hu := hu_of hr
  have hu64 := hr.units
  have hu65 := Pk.units65 hr
  refine ⟨_, PSs.nox ((pss_one (ps_ret (pe_lc (own := [("k", 1)]) (g := gName 1) (tt := tYes) rfl sc_law_due.nd (pi_range1 rfl T.b_range (pa_cons pe_int pa_nil)) (blkOk_by (own := [("k", 1)]) (N := ["place", "k"]) (sc := defScope s_law_due) (by decide +kernel)) (fun _ _ _ _ _ => (pg_name (i := 1) sc_law_due.nd rfl (Or.inl rfl))) (fun _ _ _ _ _ => pts_nil) (fun _ _ _ _ _ => (pe_or (pe_cmpR op_eq (pv 1) (pv 0) (nomark _)) (pe_one (pe_cmpR op_eq (pv 1) pe_int (nomark _))))))))), ?_⟩
  obtain ⟨n, rfl, q⟩ := h
  wtm_at "go"
  refine ⟨by omega, by omega, Pk.lcR (fun i => .bl (decide ((i : Int) = n) || decide ((i : Int) = 8))) (by decide) (fun _ => rfl) (fun i hi H2 Q2 e2 q2 => ?_) (fun D hD => ?_)⟩
  · have ei : (0 : Int) + (i : Int) = (i : Int) := by omega
    rw [ei]
    wtm_at "go"
    refine Pk.rd_dec (fun c => ?_) (fun c => ?_)
    · rw [decide_eq_true c] at q2
      exact q2
    · rw [decide_eq_false c, Bool.false_or] at q2
      wtm_at "go"
      exact q2
  · have z := q D hD
    unfold Pk.dueL at z
    rw [List.map_map] at z
    exact z
end
end PkB
namespace PkB
open PySem PySem.Spec PyProof.Rows L2
theorem sc_law_asked : FnScope ["desk", "name", "which", "e"] ["desk", "name"] (defScope s_law_asked) := ⟨rfl, rfl, rfl, by decide +kernel, rfl, by decide +kernel, by decide +kernel⟩
/-- a store is begun: what comes of it -/
def sp_law_asked (K : PySem.W.Frag) : Sp := fun vs H Q _ => ∃ (a m h : Addr) (kvs : List (Key × V)) (ns : List Str) (s : Str), vs = [.ref a, .str s] ∧ Pk.DeskE K H a m h kvs ns ∧ s.length ≤ 1000 ∧ ns.length < 1000 ∧
  (¬ Pk.Good s → ∀ (p : Addr) (H' : Hp), Pk.Ex H H' → H' p = some (.lst ((Pk.dueL 0).map V.bl)) → Q (.ref p) H') ∧
  (Pk.Good s → s ∈ ns → ∀ (p : Addr) (H' : Hp), Pk.Ex H H' → H' p = some (.lst ((Pk.dueL 1).map V.bl)) → Q (.ref p) H') ∧
  (Pk.Good s → s ∉ ns → ∀ (p : Addr) (kvs' : List (Key × V)) (H' : Hp), (∀ b o, b ≠ h → H b = some o → H' b = some o) → Pk.DeskE K H' a m h kvs' (ns ++ [s]) → H' p = some (.lst []) → H p = none → Q (.ref p) H')
theorem sp_law_asked_len {K : PySem.W.Frag} {vs : List V} {H : Hp} {Q : VK} {E : XK} (h : sp_law_asked K vs H Q E) : vs.length = 2 := by
  obtain ⟨_, _, _, _, _, _, rfl, _⟩ := h
  rfl
section
variable {P : Program} {w : World} {K : PySem.W.Frag} {mg : Str → Option Value} {base : Heap}
theorem ok_law_asked (T : Txt K mg) : Pk.Ok P w K mg base CX0 3 (He.fAd K ("_law_asked", none)) ["desk", "name"] (sp_law_asked K) := by
  obtain ⟨fd, F⟩ := T.F_law_asked
  obtain ⟨fd_Desk_begin, G_Desk_begin, B_Desk_begin⟩ := (ok_Desk_begin (P := P) (w := w) (base := base) T).ex
  refine ⟨fd, F.ok sc_law_asked ?len ?body, F.bindsN fun _ _ _ _ _ _ us hl => match us, hl with | [_, _], _ => rfl⟩
  case len => exact fun vs H Q E h => sp_law_asked_len h
  intro cdv A outer s H vs Q E hr h
  have hu := hu_of hr
  have hu64 := hr.units
  have hu65 := Pk.units65 hr
  refine ⟨_, PSs.nox ((pss_cons (ps_set (i := 2) sc_law_asked.nd rfl (Or.inl rfl) (pe_lst pa_nil))
      (pss_cons (L2N.ps_try_as (i := 3) (Wout := fun _ _ _ _ => False) (ts := fun a cls d => tAsg (tCallS (sp_law_which K a cls d) (fun _ => E0) (tCons (tVar 3) tNil)) (gName 2)) rfl rfl sc_law_asked.nd rfl rfl ⟨rfl, rfl, .inl T.g_PatchError⟩ Pk.takesN0
        (fun W pn xe tkW _ => pss_one (ps_if (pt_cmpR op_notN (Pk.pe_mAt (pv 0) T.c_Desk T.m_Desk_begin G_Desk_begin (hr.mono (by decide)) B_Desk_begin (L2N.passAt tkW) (pa_cons (pv 1) pa_nil)) pe_non (nomark _)) Pk.pss_never pss_nil))
        (fun a oe cls d pn hz hv => pss_one (ps_set (i := 2) sc_law_asked.nd rfl (Or.inl rfl) (Pk.pe_callP (okP_law_which T hz.zc hv).choose_spec.1 (Pk.roomM (j := 1) hr (by decide)) ⟨rfl, hv.elim fun vs e => ⟨vs, e, hz.2.2 vs e⟩⟩ List.mem_cons_self rfl T.g_law_which T.k_law_which (okP_law_which T hz.zc hv).choose_spec.2 (fun _ => Pk.passA0) (pa_cons (pv 3) pa_nil)))))
      (pss_one (ps_ret (pv 2)))))), ?_⟩
  obtain ⟨a, m, h, kvs, ns, s, rfl, d, hl, hn, q1, q2, q3⟩ := h
  obtain ⟨dx, hi⟩ := d.ins
  wtm_at "go"
  refine ⟨Nat.le_of_ble_eq_true rfl, fun p0 n_p0 => ?_⟩
  generalize q_p0 : upd _ p0 _ = H0
  have x_H0 := Pk.lay_ex n_p0 q_p0
  have s_p0 := Pk.lay_at q_p0
  clear q_p0
  wtm_at "go"
  have d0 := d.ex x_H0
  refine ⟨a, dx, _, rfl, x_H0 _ _ hi, rfl, ?_⟩
  wtm_at "go"
  refine ⟨a, m, h, kvs, ns, s, rfl, d0, hl, hn, fun g => ?_, fun g hs => ?_, fun g hs kvs' H1 e1 d1 => ?_⟩
  · refine ⟨true, T.e_BadName, fun _ e he => ?_, fun z => nomatch z⟩
    wtm_at "go"
    refine ⟨0, by decide, rfl, rfl, rfl, fun p H2 e2 s2 => ?_⟩
    wtm_at "go"
    exact q1 g p H2 (x_H0.trans e2) s2
  · refine ⟨true, T.e_NameTaken, fun _ e he => ?_, fun z => nomatch z⟩
    wtm_at "go"
    refine ⟨1, by decide, rfl, rfl, rfl, fun p H2 e2 s2 => ?_⟩
    wtm_at "go"
    exact q2 g hs p H2 (x_H0.trans e2) s2
  · wtm_at "go"
    refine Pk.rd_nyes rfl ?_
    wtm_at "go"
    have ne : p0 ≠ h := by
      rintro rfl
      rw [d.hav] at n_p0
      cases n_p0
    exact q3 g hs p0 kvs' H1 (fun b o hb ho => e1 _ _ hb (x_H0 _ _ ho)) d1 (e1 _ _ ne s_p0) n_p0
end
end PkB
namespace PkB
open PySem PySem.Spec PyProof.Rows L2
theorem sc_law_odd_name : FnScope ["name", "cell", "some", "at"] ["name", "cell"] (defScope s_law_odd_name) := ⟨rfl, rfl, rfl, by decide +kernel, rfl, by decide +kernel, by decide +kernel⟩
/-- some text that is no name -/
def sp_law_odd_name (K : PySem.W.Frag) : Sp := fun vs H Q _ => ∃ (s : Str) (c : Int), vs = [.str s, .int c] ∧ Pk.Good s ∧ ∀ (t : Str) (H' : Hp), Pk.Ex H H' → ¬ Pk.Good t → t.length ≤ 1000 → Q (.str t) H'
theorem sp_law_odd_name_len {K : PySem.W.Frag} {vs : List V} {H : Hp} {Q : VK} {E : XK} (h : sp_law_odd_name K vs H Q E) : vs.length = 2 := by
  obtain ⟨_, _, rfl, _⟩ := h
  rfl
def OD : Str := Str.ofString " !#$&()*+,-./:;<=>?@ABCDEFGHIJKLMNOPQRSTUVWXYZ[]^_{|}~\n\t"
theorem OD_len : OD.length = 56 := by decide +kernel
theorem OD_size : OD.cps.toList.length = 56 := by decide +kernel
theorem OD_odd : OD.cps.toList.all (fun c => !decide (c ∈ Pk.SG.cps.toList)) = true := by decide +kernel
theorem OD_at {i : Int} (h0 : 0 ≤ i) (h : i < 56) : ∃ c, atI OD.cps.toList i = some c ∧ c ∉ Pk.SG.cps.toList := by
  have hn : i.toNat < OD.cps.toList.length := by rw [OD_size]; omega
  refine ⟨OD.cps.toList[i.toNat], Pk.at_int h0 (List.getElem?_eq_getElem hn), fun z => ?_⟩
  have y := List.all_eq_true.mp OD_odd _ (List.getElem_mem hn)
  rw [decide_eq_true z] at y
  cases y
section
variable {P : Program} {w : World} {K : PySem.W.Frag} {mg : Str → Option Value} {base : Heap}
theorem ok_law_odd_name (T : Txt K mg) : Pk.Ok P w K mg base CX0 1 (He.fAd K ("_law_odd_name", none)) ["name", "cell"] (sp_law_odd_name K) := by
  obtain ⟨fd, F⟩ := T.F_law_odd_name
  refine ⟨fd, F.ok sc_law_odd_name ?len ?body, F.bindsN fun _ _ _ _ _ _ us hl => match us, hl with | [_, _], _ => rfl⟩
  case len => exact fun vs H Q E h => sp_law_odd_name_len h
  intro cdv A outer s H vs Q E hr h
  have hu := hu_of hr
  have hu64 := hr.units
  have hu65 := Pk.units65 hr
  refine ⟨_, PSs.nox ((pss_cons (ps_set (i := 2) sc_law_odd_name.nd rfl (Or.inl rfl) pe_str)
      (pss_cons (ps_if (pt_cmpR op_eq (pe_op op_mod (pv 1) pe_int) pe_int (nomark _)) (pss_one (ps_ret (pe_ix (Pk.ixL K) (pe_lst (pa_cons pe_str (pa_cons pe_str (pa_cons (pe_slice sl_str (pe_op op_add_str (pv 0) pe_str) po_none (po_some pe_int)) pa_nil)))) (pe_op op_mod (pe_op op_fdiv (pv 1) pe_int) pe_int) (fun _ _ => rfl)))) pss_nil)
      (pss_cons (ps_set (i := 3) sc_law_odd_name.nd rfl (Or.inl rfl) (pe_op op_mod (pe_op op_fdiv (pv 1) pe_int) (pe_callB call_len_str (by rfl) T.b_len Pk.bt_len (pa_cons (pv 0) pa_nil))))
      (pss_one (ps_ret (pe_op op_add_str (pe_op op_add_str (pe_slice sl_str (pv 0) po_none (po_some (pv 3))) (pe_ix ix_str (pv 2) (pe_op op_mod (pe_op op_fdiv (pv 1) pe_int) (pe_callB call_len_str (by rfl) T.b_len Pk.bt_len (pa_cons (pv 2) pa_nil))) (fun _ _ => rfl))) (pe_slice sl_str (pv 0) (po_some (pe_op op_add (pv 3) pe_int)) po_none)))))))), ?_⟩
  obtain ⟨s, c, rfl, g, q⟩ := h
  have l1 := g.lo
  have l2 := g.hi
  wtm_at "go"
  refine Pk.rd_dec (fun c0 => ?_) (fun c0 => ?_)
  · wtm_at "go"
    have e12 : (Str.ofString "abcdefghijkl").length = 12 := by decide +kernel
    refine ⟨s, _, rfl, rfl, Pk.line_le (by rw [e12]; omega), ?_⟩
    wtm_at "go"
    refine Pk.rd_slS (Pk.line_le (by rw [Pk.str_app_len, e12]; omega)) ?_
    wtm_at "go"
    refine ⟨Nat.le_of_ble_eq_true rfl, fun p0 n_p0 => ?_⟩
    generalize q_p0 : upd _ p0 _ = H0
    have x_H0 := Pk.lay_ex n_p0 q_p0
    have s_p0 := Pk.lay_at q_p0
    clear q_p0
    wtm_at "go"
    have w0 := Int.emod_nonneg (c / 4) (show (3 : Int) ≠ 0 by decide)
    have w1 := Int.emod_lt_of_pos (c / 4) (show (0 : Int) < 3 by decide)
    generalize c / 4 % 3 = wh at w0 w1 ⊢
    have cs : wh = 0 ∨ wh = 1 ∨ wh = 2 := by omega
    have len13 : (cutS (s ++ Str.ofString "abcdefghijkl") none (some 13)).length = 13 := by
      rw [← Pk.str_len]
      show ((((s ++ Str.ofString "abcdefghijkl").cps.toList.drop (HT.sIx (s ++ Str.ofString "abcdefghijkl").length 0 none)).take (HT.sIx (s ++ Str.ofString "abcdefghijkl").length (s ++ Str.ofString "abcdefghijkl").length (some 13) - HT.sIx (s ++ Str.ofString "abcdefghijkl").length 0 none)).toArray.toList).length = 13
      have e3 : (some (13 : Int)) = some ((13 : Nat) : Int) := rfl
      rw [e3, HT.sIx_none, HT.sIx_nat, List.drop_zero, Nat.sub_zero, List.length_take, Pk.str_len, Pk.str_app_len, e12]
      omega
    rcases cs with rfl | rfl | rfl
    · refine Pk.rd_ixL (SqL.of s_p0) (Pk.at_nat (k := 0) rfl) ?_
      exact q _ _ x_H0 (fun z => absurd z.lo (by decide +kernel)) (by decide +kernel)
    · refine Pk.rd_ixL (SqL.of s_p0) (Pk.at_nat (k := 1) rfl) ?_
      exact q _ _ x_H0 (fun z => absurd z.hi (by decide +kernel)) (by decide +kernel)
    · refine Pk.rd_ixL (SqL.of s_p0) (Pk.at_nat (k := 2) rfl) ?_
      exact q _ _ x_H0 (fun z => by have := z.hi; omega) (by omega)
  · wtm_at "go"
    refine Pk.rd_lenS (Pk.line_le (by omega)) ?_
    wtm_at "go"
    have a0 := Int.emod_nonneg (c / 4) (show (s.length : Int) ≠ 0 by omega)
    have a1 := Int.emod_lt_of_pos (c / 4) (show (0 : Int) < (s.length : Int) by omega)
    generalize c / 4 % (s.length : Int) = at_ at a0 a1 ⊢
    refine Pk.rd_slS (Pk.line_le (by omega)) ?_
    wtm_at "go"
    have ol : ((OD.length : Nat) : Int) = 56 := by rw [OD_len]; rfl
    refine ⟨OD, rfl, by rw [OD_len]; exact Pk.line_le (by decide), ?_⟩
    rw [ol]
    wtm_at "go"
    obtain ⟨e, he, ho⟩ := OD_at (Int.emod_nonneg (c / 48) (show (56 : Int) ≠ 0 by decide)) (Int.emod_lt_of_pos (c / 48) (show (0 : Int) < 56 by decide))
    refine Pk.rd_ixS (by show OD.length ≤ sizeLine; rw [OD_len]; exact Pk.line_le (by decide)) he ?_
    have cl1 := cutS_length s none (some at_)
    have cl2 := cutS_length s (some (at_ + 1)) none
    refine ⟨_, _, rfl, rfl, Pk.line_le (by show (cutS s none (some at_)).length + 1 ≤ 100000; omega), ?_⟩
    wtm_at "go"
    refine Pk.rd_slS (Pk.line_le (by omega)) ?_
    have tl : (cutS s none (some at_) ++ (⟨#[e]⟩ : Str)).length ≤ 13 := by
      rw [Pk.str_app_len]
      show (cutS s none (some at_)).length + 1 ≤ 13
      omega
    refine ⟨_, _, rfl, rfl, Pk.line_le (by omega), ?_⟩
    refine q _ _ (Pk.Ex.refl _) (fun z => ho (z.sg e ?_)) ?_
    · rw [Pk.str_app, Pk.str_app]
      exact List.mem_append.mpr (.inl (List.mem_append.mpr (.inr (List.mem_singleton.mpr rfl))))
    · rw [Pk.str_app_len]
      omega
end
end PkB
namespace PkB
open PySem PySem.Spec PyProof.Rows L2
theorem sc_law : FnScope ["script", "desk", "due", "k", "cell", "name", "place", "which", "found"] ["script"] (defScope s_law) := ⟨rfl, rfl, rfl, by decide +kernel, rfl, by decide +kernel, by decide +kernel⟩
/-- the law, at every script -/
def sp_law (K : PySem.W.Frag) : Sp := fun vs H Q _ => ∃ (a : Addr) (ns : List Int), vs = [.ref a] ∧ SqL K H a (ns.map V.int) ∧ ∀ H', Q (.bl true) H'
theorem sp_law_len {K : PySem.W.Frag} {vs : List V} {H : Hp} {Q : VK} {E : XK} (h : sp_law K vs H Q E) : vs.length = 1 := by
  obtain ⟨_, _, rfl, _⟩ := h
  rfl
theorem asked_of {K : PySem.W.Frag} {H : Hp} {Q : VK} {E : XK} {a m h : Addr} {kvs : List (Key × V)} {ns : List Str} {s : Str} (d : Pk.DeskE K H a m h kvs ns) (hl : s.length ≤ 1000) (hn : ns.length < 1000)
    (q : ∀ (p : Addr) (kvs' : List (Key × V)) (ns' : List Str) (W : List Bool) (H' : Hp), (∀ b o, b ≠ h → H b = some o → H' b = some o) → Pk.DeskE K H' a m h kvs' ns' → H' p = some (.lst (W.map V.bl)) →
      ((¬ Pk.Good s ∧ W = Pk.dueL 0 ∧ ns' = ns) ∨ (Pk.Good s ∧ s ∈ ns ∧ W = Pk.dueL 1 ∧ ns' = ns) ∨ (Pk.Good s ∧ s ∉ ns ∧ W = [] ∧ ns' = ns ++ [s] ∧ H p = none)) → Q (.ref p) H') : sp_law_asked K [.ref a, .str s] H Q E :=
  ⟨a, m, h, kvs, ns, s, rfl, d, hl, hn, fun g p H' e w => q p kvs ns _ H' (fun b o _ z => e b o z) (d.ex e) w (.inl ⟨g, rfl, rfl⟩), fun g hs p H' e w => q p kvs ns _ H' (fun b o _ z => e b o z) (d.ex e) w (.inr (.inl ⟨g, hs, rfl, rfl⟩)),
    fun g hs p kvs' H' e d' w z => q p kvs' _ [] H' e d' w (.inr (.inr ⟨g, hs, rfl, rfl, z⟩))⟩
section
variable {P : Program} {w : World} {K : PySem.W.Frag} {mg : Str → Option Value} {base : Heap}
theorem ok_law (T : Txt K mg) {fd : FuncData} (F : FunD K "law" "law" (defArgs s_law) (defBody s_law) (defScope s_law) [] [] (He.fAd K ("law", none)) fd) : FnOk P w K mg base CX0 6 (He.fAd K ("law", none)) fd ["script"] (sp_law K) := by
  obtain ⟨fd_Desk_init__, G_Desk_init__, B_Desk_init__⟩ := (ok_Desk_init__ (P := P) (w := w) (base := base) T).ex
  obtain ⟨fd_law_cell_at, G_law_cell_at, B_law_cell_at⟩ := (ok_law_cell_at (P := P) (w := w) (base := base) T).ex
  obtain ⟨fd_law_name, G_law_name, B_law_name⟩ := (ok_law_name (P := P) (w := w) (base := base) T).ex
  obtain ⟨fd_law_asked, G_law_asked, B_law_asked⟩ := (ok_law_asked (P := P) (w := w) (base := base) T).ex
  obtain ⟨fd_Desk_stores, G_Desk_stores, B_Desk_stores⟩ := (ok_Desk_stores (P := P) (w := w) (base := base) T).ex
  obtain ⟨fd_law_names_are, G_law_names_are, B_law_names_are⟩ := (ok_law_names_are (P := P) (w := w) (base := base) T).ex
  obtain ⟨fd_law_odd_name, G_law_odd_name, B_law_odd_name⟩ := (ok_law_odd_name (P := P) (w := w) (base := base) T).ex
  obtain ⟨fd_Desk_patches, G_Desk_patches, B_Desk_patches⟩ := (ok_Desk_patches (P := P) (w := w) (base := base) T).ex
  obtain ⟨fd_Desk_has, G_Desk_has, B_Desk_has⟩ := (ok_Desk_has (P := P) (w := w) (base := base) T).ex
  obtain ⟨fd_Desk_files, G_Desk_files, B_Desk_files⟩ := (ok_Desk_files (P := P) (w := w) (base := base) T).ex
  obtain ⟨fd_Desk_row, G_Desk_row, B_Desk_row⟩ := (ok_Desk_row (P := P) (w := w) (base := base) T).ex
  obtain ⟨fd_law_due, G_law_due, B_law_due⟩ := (ok_law_due (P := P) (w := w) (base := base) T).ex
  refine F.ok sc_law ?len ?body
  case len => exact fun vs H Q E h => sp_law_len h
  intro cdv A outer s H vs Q E hr h
  have hu := hu_of hr
  have hu64 := hr.units
  have hu65 := Pk.units65 hr
  refine ⟨_, PSs.nox ((pss_cons (ps_set (i := 1) sc_law.nd rfl (Or.inl rfl) (pe_make0 T.m_Desk G_Desk_init__ (hr.mono (by decide)) rfl T.g_Desk B_Desk_init__ .nil pass0))
      (pss_cons (ps_set (i := 2) sc_law.nd rfl (Or.inl rfl) (pe_lst pa_nil))
      (pss_cons (ps_for PassesOwn.never rfl (pi_range1 rfl T.b_range (pa_cons (pe_op op_add pe_int (pe_op op_mod (pe_call G_law_cell_at (hr.mono (by decide)) rfl T.g_law_cell_at T.k_law_cell_at B_law_cell_at .nil pass0 (pa_cons (pv 0) (pa_cons pe_int pa_nil))) pe_int)) pa_nil)) (pg_name (i := 3) sc_law.nd rfl (Or.inl rfl)) (pss_cons (ps_set (i := 4) sc_law.nd rfl (Or.inl rfl) (pe_call G_law_cell_at (hr.mono (by decide)) rfl T.g_law_cell_at T.k_law_cell_at B_law_cell_at .nil pass0 (pa_cons (pv 0) (pa_cons (pe_op op_add pe_int (pv 3)) pa_nil))))
      (pss_cons (ps_set (i := 5) sc_law.nd rfl (Or.inl rfl) (pe_call G_law_name (hr.mono (by decide)) rfl T.g_law_name T.k_law_name B_law_name .nil pass0 (pa_cons (pe_op op_mod (pe_call G_law_cell_at (hr.mono (by decide)) rfl T.g_law_cell_at T.k_law_cell_at B_law_cell_at .nil pass0 (pa_cons (pv 0) (pa_cons pe_int pa_nil))) pe_int) (pa_cons (pe_op op_mod (pe_op op_fdiv (pv 4) pe_int) pe_int) pa_nil))))
      (pss_cons (ps_set (i := 6) sc_law.nd rfl (Or.inl rfl) (pe_un un_neg pe_int))
      (Evl.pss_cut (ps_if (pt_cmpR op_eq (pe_op op_mod (pv 4) pe_int) pe_int (nomark _)) (pss_cons (ps_set (i := 5) sc_law.nd rfl (Or.inl rfl) (pe_call G_law_odd_name (hr.mono (by decide)) rfl T.g_law_odd_name T.k_law_odd_name B_law_odd_name .nil pass0 (pa_cons (pv 5) (pa_cons (pe_op op_fdiv (pv 4) pe_int) pa_nil))))
      (pss_one (ps_set (i := 6) sc_law.nd rfl (Or.inl rfl) pe_int))) (pss_one (ps_if (pt_cmpR (Pk.inSq K) (pv 5) (pv 2) (by rfl)) (pss_one (ps_set (i := 6) sc_law.nd rfl (Or.inl rfl) pe_int)) pss_nil)))
      (pss_cons (ps_set (i := 7) sc_law.nd rfl (Or.inl rfl) (pe_call G_law_asked (hr.mono (by decide)) rfl T.g_law_asked T.k_law_asked B_law_asked .nil pass0 (pa_cons (pv 1) (pa_cons (pv 5) pa_nil))))
      (Evl.pss_cut (ps_if (pt_cmpR op_lt (pv 6) pe_int (nomark _)) (pss_one (ps_expr (pe_bm PySem.F.plainAttrs_list PySem.F.slot_list_append PySem.F.type_list_append mt_append (pv 2) (pa_cons (pv 5) pa_nil)))) pss_nil)
      (pss_cons (ps_if (pt_cmpR (Pk.neDK K hu64) (pv 7) (pe_ix (Pk.ixL K) (pe_lst (pa_cons (pe_lst pa_nil) (pa_cons (pe_call G_law_due (hr.mono (by decide)) rfl T.g_law_due T.k_law_due B_law_due .nil pass0 (pa_cons pe_int pa_nil)) (pa_cons (pe_call G_law_due (hr.mono (by decide)) rfl T.g_law_due T.k_law_due B_law_due .nil pass0 (pa_cons pe_int pa_nil)) pa_nil)))) (pe_op op_add (pv 6) pe_int) (fun _ _ => rfl)) (nomark _)) (pss_one (ps_ret pe_bl)) pss_nil)
      (pss_cons (ps_set (i := 8) sc_law.nd rfl (Or.inl rfl) (pe_meth0 (pv 1) T.c_Desk T.m_Desk_stores G_Desk_stores (hr.mono (by decide)) B_Desk_stores .nil pass0))
      (pss_cons (ps_if (pt_not (pt_val (pe_call G_law_names_are (hr.mono (by decide)) rfl T.g_law_names_are T.k_law_names_are B_law_names_are .nil pass0 (pa_cons (pv 8) (pa_cons (pv 2) pa_nil))))) (pss_one (ps_ret pe_bl)) pss_nil)
      (pss_one (ps_expr (pe_bm PySem.F.plainAttrs_list PySem.F.slot_list_append PySem.F.type_list_append mt_append (pv 8) (pa_cons (pv 5) pa_nil))))))))))))))
      (pss_cons (ps_for PassesOwn.never rfl (Pk.piL K (pv 2)) (pg_name (i := 5) sc_law.nd rfl (Or.inl rfl)) (pss_one (ps_if (PW.pt (pw_or (pt_cmpR (Pk.neDK K hu64) (pe_meth (pv 1) T.c_Desk T.m_Desk_has G_Desk_has (hr.mono (by decide)) B_Desk_has .nil pass0 (pa_cons (pv 5) pa_nil)) (pe_lst pa_nil) (nomark _)) (pw_or (pt_cmpR (Pk.neDK K hu64) (pe_meth (pv 1) T.c_Desk T.m_Desk_files G_Desk_files (hr.mono (by decide)) B_Desk_files .nil pass0 (pa_cons (pv 5) pa_nil)) (pe_lst pa_nil) (nomark _)) (pw_or1 (pt_cmpR (Pk.neDK K hu64) (pe_meth (pv 1) T.c_Desk T.m_Desk_row G_Desk_row (hr.mono (by decide)) B_Desk_row .nil pass0 (pa_cons (pv 5) (pa_cons pe_str pa_nil))) (pe_lst pa_nil) (nomark _)))))) (pss_one (ps_ret pe_bl)) pss_nil)))
      (pss_one (ps_ret (pe_and (pe_cmpR (Pk.eqDK K hu64) (pe_meth0 (pv 1) T.c_Desk T.m_Desk_patches G_Desk_patches (hr.mono (by decide)) B_Desk_patches .nil pass0) (pe_lst pa_nil) (nomark _)) (pe_one (pe_call G_law_names_are (hr.mono (by decide)) rfl T.g_law_names_are T.k_law_names_are B_law_names_are .nil pass0 (pa_cons (pe_meth0 (pv 1) T.c_Desk T.m_Desk_stores G_Desk_stores (hr.mono (by decide)) B_Desk_stores .nil pass0) (pa_cons (pv 2) pa_nil)))))))))))), ?_⟩
  obtain ⟨a, is, rfl, hS, q⟩ := h
  wtm_at "go"
  intro pd dx n_pd n_dx ndx
  generalize q_H0 : upd (upd H dx (HO.own pd)) pd _ = H0
  have i0 : H0 pd = some (.ins (He.ga K "Desk") dx []) := Pk.lay_at q_H0
  have x_H0 : Pk.Ex H H0 := by
    rw [← q_H0]
    exact (Pk.Ex.new n_dx).mut n_pd
  clear q_H0
  refine ⟨pd, dx, rfl, i0, fun m hv H1 e1 d1 nm nh => ?_⟩
  have e01 : Pk.Ex H H1 := fun b o z => e1 b o (ne_of_none z n_pd) (x_H0 _ _ z)
  have nhv : H hv = none := x_H0.back nh
  wtm_at "go"
  refine ⟨Nat.le_of_ble_eq_true rfl, fun pu n_pu => ?_⟩
  generalize q_pu : upd _ pu _ = H2
  have x_H2 := Pk.lay_ex n_pu q_pu
  have s_pu := Pk.lay_at q_pu
  clear q_pu
  wtm_at "go"
  refine ⟨a, is, _, rfl, (e01.trans x_H2).seqL hS, by decide, fun c0 => ?_⟩
  wtm_at "go"
  have m0 := Int.emod_nonneg c0 (show (9 : Int) ≠ 0 by decide)
  have m1 := Int.emod_lt_of_pos c0 (show (0 : Int) < 9 by decide)
  generalize c0 % 9 = nn at m0 m1 ⊢
  refine ⟨by omega, by omega, for_range (lo := 0) (n := (1 + nn).toNat) (fun i σ H' => Pk.Ex H H' ∧ ∃ (kvs : List (Key × V)) (due : List Str) (v3 v4 v5 v6 v7 v8 : Option V), σ = [some (.ref a), some (.ref pd), some (.ref pu), v3, v4, v5, v6, v7, v8] ∧ Pk.DeskE K H' pd m hv kvs due ∧ H' pu = some (.lst (due.map V.str)) ∧ due.length ≤ i ∧ ∀ t ∈ due, Pk.Good t) ?_ ?_ ?_⟩
  · exact ⟨e01.trans x_H2, [], [], _, _, _, _, _, _, rfl, d1.ex x_H2, s_pu, Nat.le_refl _, fun t ht => absurd ht List.not_mem_nil⟩
  · rintro i σ Ha hi ⟨ea, kvs, due, v3, v4, v5, v6, v7, v8, rfl, da, ua, la, ga⟩
    wtm_at "go"
    refine ⟨a, is, _, rfl, ea.seqL hS, by omega, fun c1 => ?_⟩
    wtm_at "go"
    refine ⟨a, is, _, rfl, ea.seqL hS, by decide, fun c2 => ?_⟩
    wtm_at "go"
    refine ⟨_, _, rfl, Int.emod_nonneg c2 (show (20736 : Int) ≠ 0 by decide), Int.emod_lt_of_pos c2 (show (0 : Int) < 20736 by decide), Int.emod_nonneg (c1 / 5) (show (7 : Int) ≠ 0 by decide), fun s gs => ?_⟩
    wtm_at "go"
    refine Pk.rd_cut (fun σ' H' => Pk.Ex Ha H' ∧ ∃ (t : Str) (pl : Int), σ' = [some (.ref a), some (.ref pd), some (.ref pu), some (.int (0 + (i : Int))), some (.int c1), some (.str t), some (.int pl), v7, v8] ∧ t.length ≤ 1000 ∧
      ((pl = 0 ∧ ¬ Pk.Good t) ∨ (pl = 1 ∧ Pk.Good t ∧ t ∈ due) ∨ (pl = -1 ∧ Pk.Good t ∧ t ∉ due))) ?_ ?_
    · wtm_at "go"
      refine Pk.rd_dec (fun k1 => ?_) (fun k1 => ?_)
      · wtm_at "go"
        refine ⟨s, _, rfl, gs, fun t Hb eb nt lt => ?_⟩
        wtm_at "go"
        exact ⟨eb, t, 0, rfl, lt, .inl ⟨rfl, nt⟩⟩
      · wtm_at "go"
        refine ⟨pu, _, rfl, .inl (SqL.of ua), rfl, Pk.flat_names due, ?_⟩
        rw [if_neg (by decide), Pk.inV_names]
        wtm_at "go"
        have ls := gs.hi
        refine Pk.rd_dec (fun k2 => ?_) (fun k2 => ?_)
        · wtm_at "go"
          exact ⟨Pk.Ex.refl _, s, 1, rfl, by omega, .inr (.inl ⟨rfl, gs, k2⟩)⟩
        · wtm_at "go"
          exact ⟨Pk.Ex.refl _, s, -1, rfl, by omega, .inr (.inr ⟨rfl, gs, k2⟩)⟩
    rintro σ' Hb ⟨eb, t, pl, rfl, lt, hpl⟩
    wtm_at "go"
    have db := da.ex eb
    refine asked_of db lt (by omega) fun pw kvs2 due2 W Hc ec dc wc out => ?_
    have fits : (pl = 0 ∧ W = Pk.dueL 0 ∧ due2 = due) ∨ (pl = 1 ∧ W = Pk.dueL 1 ∧ due2 = due) ∨ (pl = -1 ∧ W = [] ∧ due2 = due ++ [t] ∧ Pk.Good t ∧ Hb pw = none) := by
      rcases hpl with ⟨h1, h2⟩ | ⟨h1, h2, h3⟩ | ⟨h1, h2, h3⟩
      · rcases out with ⟨o1, o2, o3⟩ | ⟨o1, _⟩ | ⟨o1, _⟩
        · exact .inl ⟨h1, o2, o3⟩
        · exact absurd o1 h2
        · exact absurd o1 h2
      · rcases out with ⟨o1, _⟩ | ⟨o1, o2, o3, o4⟩ | ⟨o1, o2, _⟩
        · exact absurd h2 o1
        · exact .inr (.inl ⟨h1, o3, o4⟩)
        · exact absurd h3 o2
      · rcases out with ⟨o1, _⟩ | ⟨o1, o2, _⟩ | ⟨o1, o2, o3, o4, o5⟩
        · exact absurd h2 o1
        · exact absurd o2 h3
        · exact .inr (.inr ⟨h1, o3, o4, h2, o5⟩)
    clear out hpl
    have g2 : ∀ x ∈ due2, Pk.Good x := by
      rcases fits with ⟨_, _, rfl⟩ | ⟨_, _, rfl⟩ | ⟨_, _, rfl, gt, _⟩
      · exact ga
      · exact ga
      · intro x hx
        rcases List.mem_append.mp hx with hx | hx
        · exact ga x hx
        · rw [List.mem_singleton] at hx
          rw [hx]
          exact gt
    have l2 : due2.length ≤ i + 1 := by
      rcases fits with ⟨_, _, rfl⟩ | ⟨_, _, rfl⟩ | ⟨_, _, rfl, gt, _⟩
      · omega
      · omega
      · rw [List.length_append]
        show due.length + 1 ≤ i + 1
        omega
    have uc : Hc pu = some (.lst (due.map V.str)) := Pk.Ex.seqM (K := K) db.hav ec (eb _ _ ua)
    have eHc : Pk.Ex H Hc := (ea.trans eb).mut2 nhv ec
    wtm_at "go"
    refine Pk.rd_cut (fun σ' H' => (∀ b o, b ≠ pu → Hc b = some o → H' b = some o) ∧ H' pu = some (.lst (due2.map V.str)) ∧ H' pw = some (.lst (W.map V.bl)) ∧ σ' = [some (.ref a), some (.ref pd), some (.ref pu), some (.int (0 + (i : Int))), some (.int c1), some (.str t), some (.int pl), some (.ref pw), v8]) ?_ ?_
    · wtm_at "go"
      rcases fits with ⟨rfl, rfl, rfl⟩ | ⟨rfl, rfl, rfl⟩ | ⟨rfl, rfl, rfl, gt, npw⟩
      · refine Pk.rd_no (by decide) ?_
        wtm_at "go"
        exact ⟨fun b o _ z => z, uc, wc, rfl⟩
      · refine Pk.rd_no (by decide) ?_
        wtm_at "go"
        exact ⟨fun b o _ z => z, uc, wc, rfl⟩
      · refine Pk.rd_yes (by decide) ?_
        wtm_at "go"
        have ne : pw ≠ pu := by
          rintro rfl
          rw [eb _ _ ua] at npw
          cases npw
        refine Pk.rd_app uc (Pk.line_lt (by rw [List.length_map]; omega)) ?_
        generalize q_Hd : upd _ pu _ = Hd
        have s_Hd := Pk.lay_at q_Hd
        have m_Hd := Pk.lay_mut q_Hd
        clear q_Hd
        wtm_at "go"
        exact ⟨m_Hd, by rw [s_Hd, List.map_append]; rfl, m_Hd _ _ ne wc, rfl⟩
    rintro σ' Hd ⟨ed, ud, wd, rfl⟩
    have dd := dc.mutL uc ed
    have eHd : Pk.Ex H Hd := eHc.mut2 (e01.back n_pu) ed
    wtm_at "go"
    refine ⟨Nat.le_of_ble_eq_true rfl, fun q0 n_q0 => ?_⟩
    generalize q_q0 : upd _ q0 _ = He
    have x_He := Pk.lay_ex n_q0 q_q0
    have s_q0 := Pk.lay_at q_q0
    clear q_q0
    wtm_at "go"
    refine ⟨0, rfl, ?_⟩
    intro q1 n_q1
    generalize q_q1 : upd _ q1 _ = Hf
    have x_Hf := Pk.lay_ex n_q1 q_q1
    have s_q1 := Pk.lay_at q_q1
    clear q_q1
    wtm_at "go"
    refine ⟨1, rfl, ?_⟩
    intro q2 n_q2
    generalize q_q2 : upd _ q2 _ = Hg
    have x_Hg := Pk.lay_ex n_q2 q_q2
    have s_q2 := Pk.lay_at q_q2
    clear q_q2
    wtm_at "go"
    refine ⟨Nat.le_of_ble_eq_true rfl, fun q3 n_q3 => ?_⟩
    generalize q_q3 : upd _ q3 _ = Hh
    have x_Hh := Pk.lay_ex n_q3 q_q3
    have s_q3 := Pk.lay_at q_q3
    clear q_q3
    wtm_at "go"
    have r0 := x_Hh _ _ (x_Hg _ _ (x_Hf _ _ s_q0))
    have r1 := x_Hh _ _ (x_Hg _ _ s_q1)
    have r2 := x_Hh _ _ s_q2
    have edh : Pk.Ex Hd Hh := x_He.trans (x_Hf.trans (x_Hg.trans x_Hh))
    have pick : ∃ (l : Addr), atI [V.ref q0, V.ref q1, V.ref q2] (pl + 1) = some (.ref l) ∧ Hh l = some (.lst (W.map V.bl)) := by
      rcases fits with ⟨rfl, rfl, _⟩ | ⟨rfl, rfl, _⟩ | ⟨rfl, rfl, _, _, _⟩
      · exact ⟨q1, Pk.at_nat (k := 1) rfl, r1⟩
      · exact ⟨q2, Pk.at_nat (k := 2) rfl, r2⟩
      · exact ⟨q0, Pk.at_nat (k := 0) rfl, r0⟩
    obtain ⟨l, hat, hl⟩ := pick
    refine Pk.rd_ixL (SqL.of s_q3) hat ?_
    refine Pk.rd_neSelf (.lst (SqL.of (edh _ _ wd)) (Pk.dp_bls _)) (.lst (SqL.of hl) (Pk.dp_bls _)) (Pk.shaped_bls _) ?_
    wtm_at "go"
    have dh := dd.ex edh
    obtain ⟨dxh, ih⟩ := dh.ins
    refine Pk.rd_ins ih rfl ?_
    wtm_at "go"
    refine ⟨pd, m, hv, kvs2, due2, rfl, dh, ?_⟩
    intro pf n_pf
    generalize q_pf : upd _ pf _ = Hj
    have x_Hj := Pk.lay_ex n_pf q_pf
    have s_pf := Pk.lay_at q_pf
    clear q_pf
    wtm_at "go"
    refine ⟨pf, pu, due2, rfl, s_pf, x_Hj _ _ (edh _ _ ud), fun x hx => (g2 x hx).tok, ?_⟩
    wtm_at "go"
    refine Pk.rd_app s_pf (Pk.line_lt (by rw [List.length_map]; omega)) ?_
    generalize q_Hk : upd _ pf _ = Hk
    have s_Hk := Pk.lay_at q_Hk
    have m_Hk := Pk.lay_mut q_Hk
    clear q_Hk
    wtm_at "go"
    have ehk : Pk.Ex Hh Hk := x_Hj.mut2 n_pf m_Hk
    exact ⟨(eHd.trans edh).trans ehk, kvs2, due2, _, _, _, _, _, _, rfl, dh.ex ehk, ehk _ _ (edh _ _ ud), l2, g2⟩
  · rintro σ Ha ⟨ea, kvs, due, v3, v4, v5, v6, v7, v8, rfl, da, ua, la, ga⟩
    wtm_at "go"
    refine ⟨⟨_, SqL.of ua⟩, for_list (K := K) (a := pu) (xs := due.map V.str) (fun i σ H' => Pk.Ex Ha H' ∧ ∃ (v3 v4 v5 v6 v7 v8 : Option V), σ = [some (.ref a), some (.ref pd), some (.ref pu), v3, v4, v5, v6, v7, v8]) ⟨Pk.Ex.refl _, _, _, _, _, _, _, rfl⟩ (fun i σ H' _ z => z.1.seqL (SqL.of ua)) ?_ ?_⟩
    · rintro i x σ Hb hx ⟨eb, v3, v4, v5, v6, v7, v8, rfl⟩
      have hm := List.mem_of_getElem? hx
      obtain ⟨t, ht, rfl⟩ := List.mem_map.mp hm
      have db := da.ex eb
      obtain ⟨dxb, ib⟩ := db.ins
      wtm_at "go"
      refine Pk.rd_ins ib rfl ?_
      wtm_at "go"
      refine ⟨pd, m, hv, kvs, due, t, rfl, db, ht, fun p1 Hc ec s1 => ?_⟩
      wtm_at "go"
      refine ⟨Nat.le_of_ble_eq_true rfl, fun p2 n_p2 => ?_⟩
      generalize q_p2 : upd _ p2 _ = Hd
      have x_Hd := Pk.lay_ex n_p2 q_p2
      have s_p2 := Pk.lay_at q_p2
      clear q_p2
      refine Pk.rd_neSelf (d := .list []) (.lst (SqL.of (x_Hd _ _ s1)) .nil) (.lst (SqL.of s_p2) .nil) (by decide) ?_
      wtm_at "go"
      have ed := ec.trans x_Hd
      refine Pk.rd_ins (ed _ _ ib) rfl ?_
      wtm_at "go"
      refine ⟨pd, m, hv, kvs, due, t, rfl, db.ex ed, ht, fun p3 He ee s3 => ?_⟩
      wtm_at "go"
      refine ⟨Nat.le_of_ble_eq_true rfl, fun p4 n_p4 => ?_⟩
      generalize q_p4 : upd _ p4 _ = Hf
      have x_Hf := Pk.lay_ex n_p4 q_p4
      have s_p4 := Pk.lay_at q_p4
      clear q_p4
      refine Pk.rd_neSelf (d := .list []) (.lst (SqL.of (x_Hf _ _ s3)) .nil) (.lst (SqL.of s_p4) .nil) (by decide) ?_
      wtm_at "go"
      have ef := ed.trans (ee.trans x_Hf)
      refine Pk.rd_ins (ef _ _ ib) rfl ?_
      wtm_at "go"
      refine ⟨pd, m, hv, kvs, due, t, _, rfl, db.ex ef, ht, fun p5 Hg eg s5 => ?_⟩
      wtm_at "go"
      refine ⟨Nat.le_of_ble_eq_true rfl, fun p6 n_p6 => ?_⟩
      generalize q_p6 : upd _ p6 _ = Hh
      have x_Hh := Pk.lay_ex n_p6 q_p6
      have s_p6 := Pk.lay_at q_p6
      clear q_p6
      refine Pk.rd_neSelf (d := .list []) (.lst (SqL.of (x_Hh _ _ s5)) .nil) (.lst (SqL.of s_p6) .nil) (by decide) ?_
      wtm_at "go"
      exact ⟨eb.trans (ef.trans (eg.trans x_Hh)), _, _, _, _, _, _, rfl⟩
    · rintro σ Hb ⟨eb, v3, v4, v5, v6, v7, v8, rfl⟩
      have db := da.ex eb
      obtain ⟨dxb, ib⟩ := db.ins
      wtm_at "go"
      refine Pk.rd_ins ib rfl ?_
      wtm_at "go"
      refine ⟨pd, m, hv, kvs, due, rfl, db, ?_⟩
      intro p1 n_p1
      generalize q_p1 : upd _ p1 _ = Hc
      have x_Hc := Pk.lay_ex n_p1 q_p1
      have s_p1 := Pk.lay_at q_p1
      clear q_p1
      wtm_at "go"
      refine ⟨Nat.le_of_ble_eq_true rfl, fun p2 n_p2 => ?_⟩
      generalize q_p2 : upd _ p2 _ = Hd
      have x_Hd := Pk.lay_ex n_p2 q_p2
      have s_p2 := Pk.lay_at q_p2
      clear q_p2
      refine Pk.rd_eqSelf (d := .list []) (.lst (SqL.of (x_Hd _ _ s_p1)) .nil) (.lst (SqL.of s_p2) .nil) (by decide) ?_
      wtm_at "go"
      have ed := x_Hc.trans x_Hd
      refine Pk.rd_ins (ed _ _ ib) rfl ?_
      wtm_at "go"
      refine ⟨pd, m, hv, kvs, due, rfl, db.ex ed, ?_⟩
      intro p3 n_p3
      generalize q_p3 : upd _ p3 _ = He
      have x_He := Pk.lay_ex n_p3 q_p3
      have s_p3 := Pk.lay_at q_p3
      clear q_p3
      wtm_at "go"
      refine ⟨p3, pu, due, rfl, s_p3, x_He _ _ (ed _ _ (eb _ _ ua)), fun t ht => (ga t ht).tok, ?_⟩
      wtm_at "go"
      exact q _
end
end PkB
set_option maxHeartbeats 0
namespace PkB
open PySem PySem.Spec PyProof.Rows L2
def d_live_of : He.DefD := ⟨("live_of", none), "live_of", "live_of", defArgs s_live_of, defBody s_live_of, defScope s_live_of, [], []⟩
def d_lines_of : He.DefD := ⟨("lines_of", none), "lines_of", "lines_of", defArgs s_lines_of, defBody s_lines_of, defScope s_lines_of, [], []⟩
def d_aheads : He.DefD := ⟨("aheads", none), "aheads", "aheads", defArgs s_aheads, defBody s_aheads, defScope s_aheads, [], []⟩
def d_standing : He.DefD := ⟨("standing", none), "standing", "standing", defArgs s_standing, defBody s_standing, defScope s_standing, [], []⟩
def d_row_of : He.DefD := ⟨("row_of", none), "row_of", "row_of", defArgs s_row_of, defBody s_row_of, defScope s_row_of, [], []⟩
def d_look_at : He.DefD := ⟨("look_at", none), "look_at", "look_at", defArgs s_look_at, defBody s_look_at, defScope s_look_at, [], []⟩
def d_Desk_init__ : He.DefD := ⟨("Desk", some "__init__"), "__init__", "Desk.__init__", defArgs s_Desk_init__, defBody s_Desk_init__, defScope s_Desk_init__, [], []⟩
def d_Desk_look_for : He.DefD := ⟨("Desk", some "look_for"), "look_for", "Desk.look_for", defArgs s_Desk_look_for, defBody s_Desk_look_for, defScope s_Desk_look_for, [], []⟩
def d_Desk_chosen : He.DefD := ⟨("Desk", some "chosen"), "chosen", "Desk.chosen", defArgs s_Desk_chosen, defBody s_Desk_chosen, defScope s_Desk_chosen, [], []⟩
def d_Desk_begin : He.DefD := ⟨("Desk", some "begin"), "begin", "Desk.begin", defArgs s_Desk_begin, defBody s_Desk_begin, defScope s_Desk_begin, [], []⟩
def d_Desk_stores : He.DefD := ⟨("Desk", some "stores"), "stores", "Desk.stores", defArgs s_Desk_stores, defBody s_Desk_stores, defScope s_Desk_stores, [], []⟩
def d_Desk_patches : He.DefD := ⟨("Desk", some "patches"), "patches", "Desk.patches", defArgs s_Desk_patches, defBody s_Desk_patches, defScope s_Desk_patches, [], []⟩
def d_Desk_has : He.DefD := ⟨("Desk", some "has"), "has", "Desk.has", defArgs s_Desk_has, defBody s_Desk_has, defScope s_Desk_has, [], []⟩
def d_Desk_row : He.DefD := ⟨("Desk", some "row"), "row", "Desk.row", defArgs s_Desk_row, defBody s_Desk_row, defScope s_Desk_row, [], []⟩
def d_Desk_files : He.DefD := ⟨("Desk", some "files"), "files", "Desk.files", defArgs s_Desk_files, defBody s_Desk_files, defScope s_Desk_files, [], []⟩
def d_law_cell_at : He.DefD := ⟨("_law_cell_at", none), "_law_cell_at", "_law_cell_at", defArgs s_law_cell_at, defBody s_law_cell_at, defScope s_law_cell_at, [], []⟩
def d_law_name : He.DefD := ⟨("_law_name", none), "_law_name", "_law_name", defArgs s_law_name, defBody s_law_name, defScope s_law_name, [], []⟩
def d_law_names_are : He.DefD := ⟨("_law_names_are", none), "_law_names_are", "_law_names_are", defArgs s_law_names_are, defBody s_law_names_are, defScope s_law_names_are, [], []⟩
def d_law_which : He.DefD := ⟨("_law_which", none), "_law_which", "_law_which", defArgs s_law_which, defBody s_law_which, defScope s_law_which, [], []⟩
def d_law_due : He.DefD := ⟨("_law_due", none), "_law_due", "_law_due", defArgs s_law_due, defBody s_law_due, defScope s_law_due, [], []⟩
def d_law_asked : He.DefD := ⟨("_law_asked", none), "_law_asked", "_law_asked", defArgs s_law_asked, defBody s_law_asked, defScope s_law_asked, [], []⟩
def d_law_odd_name : He.DefD := ⟨("_law_odd_name", none), "_law_odd_name", "_law_odd_name", defArgs s_law_odd_name, defBody s_law_odd_name, defScope s_law_odd_name, [], []⟩
def d_law : He.DefD := ⟨("law", none), "law", "law", defArgs s_law, defBody s_law, defScope s_law, [], []⟩
def fn : List He.DefD := [d_live_of, d_lines_of, d_aheads, d_standing, d_row_of, d_look_at, d_Desk_init__, d_Desk_look_for, d_Desk_chosen, d_Desk_begin, d_Desk_stores, d_Desk_patches, d_Desk_has, d_Desk_row, d_Desk_files, d_law_cell_at, d_law_name, d_law_names_are, d_law_which, d_law_due, d_law_asked, d_law_odd_name, d_law]
def fa0 : List He.Fa := [.glo "live_of", .keep "live_of", .glo "lines_of", .keep "lines_of", .glo "aheads", .keep "aheads", .glo "standing", .keep "standing", .glo "row_of", .keep "row_of", .glo "look_at", .keep "look_at", .meth "Desk" "look_for", .meth "Desk" "chosen", .meth "Desk" "begin", .meth "Desk" "stores", .meth "Desk" "patches", .meth "Desk" "has", .meth "Desk" "row", .meth "Desk" "files"]
def fa1 : List He.Fa := [.glo "_law_cell_at", .keep "_law_cell_at", .glo "_law_name", .keep "_law_name", .glo "_law_names_are", .keep "_law_names_are", .glo "_law_which", .keep "_law_which", .glo "_law_due", .keep "_law_due", .glo "_law_asked", .keep "_law_asked", .glo "_law_odd_name", .keep "_law_odd_name", .glo "law", .keep "law", .glo "Desk", .cls "Desk", .mkr "Desk", .noat "Desk" "made"]
def fa2 : List He.Fa := [.noat "Desk" "having", .glo "PatchError", .exc "PatchError", .glo "BadName", .exc "BadName", .glo "NameTaken", .exc "NameTaken", .glo "NoStore", .exc "NoStore", .glo "NoPatch", .exc "NoPatch", .glo "NoLine", .exc "NoLine", .glo "Unsettled", .exc "Unsettled", .glo "Same", .exc "Same", .glo "Leant", .exc "Leant", .free "dict"]
def fa3 : List He.Fa := [.free "enumerate", .free "isinstance", .free "len", .free "list", .free "range", .free "reversed", .free "sorted", .free "str", .free "ValueError", .str "SIGNS" "abcdefghijklmnopqrstuvwxyz0123456789", .exm "BadName" "PatchError" true, .exm "NameTaken" "PatchError" true]
def fa : List He.Fa := fa0 ++ fa1 ++ fa2 ++ fa3
abbrev R : PySem.W.OpenRow := PySem.W.OpenLaw.row PySem.Challenge.rw_patchkin_k02_stores_begun
abbrev hk : PySem.W.Hook := He.hookX 5 fa fn [] [] exf
def ob (s : PySem.W.SharedT) : He.AlX := He.obsX 5 fa fn [] [] exf (HandSHeadRun.getT s)
theorem ob_eq (s : PySem.W.SharedT) : ob s = hk.obs s.abs := He.obsX_eq (HandSHeadRun.getT_eq s)
def loose0 : List Str := ["_wall", "__name__", "PatchError", "BadName", "NameTaken", "NoStore", "NoPatch", "NoLine", "Unsettled", "Same", "Leant", "live_of", "lines_of", "aheads", "standing", "may_come", "row_of", "SIGNS", "look_at", "Desk", "_law_cell_at", "_law_name", "_law_names_are", "_law_which", "_law_due"]
def loose1 : List Str := ["_law_asked", "_law_odd_name"]
def loose : List Str := loose0 ++ loose1
theorem run (w : World) : HandSHeadRun.RunEq R (PySem.W.view R.prog [30]) hk ob 4000 loose w := by
  intro os
  kernel_rfl
theorem txt_of {K : PySem.W.Frag} {h : Heap} {mg : Str → Option Value} (X : K.In h) (G : h.Ns mainGlobals mg) (c : He.SaysD fa fn K) (m : exf K = true) : Txt K mg where
  g_live_of := He.glo_ok X G (c.fact 0 (f := .glo "live_of") rfl)
  k_live_of := He.keep_ok (c.fact 1 (f := .keep "live_of") rfl)
  F_live_of := c.def_ 0 (d := d_live_of) rfl
  g_lines_of := He.glo_ok X G (c.fact 2 (f := .glo "lines_of") rfl)
  k_lines_of := He.keep_ok (c.fact 3 (f := .keep "lines_of") rfl)
  F_lines_of := c.def_ 1 (d := d_lines_of) rfl
  g_aheads := He.glo_ok X G (c.fact 4 (f := .glo "aheads") rfl)
  k_aheads := He.keep_ok (c.fact 5 (f := .keep "aheads") rfl)
  F_aheads := c.def_ 2 (d := d_aheads) rfl
  g_standing := He.glo_ok X G (c.fact 6 (f := .glo "standing") rfl)
  k_standing := He.keep_ok (c.fact 7 (f := .keep "standing") rfl)
  F_standing := c.def_ 3 (d := d_standing) rfl
  g_row_of := He.glo_ok X G (c.fact 8 (f := .glo "row_of") rfl)
  k_row_of := He.keep_ok (c.fact 9 (f := .keep "row_of") rfl)
  F_row_of := c.def_ 4 (d := d_row_of) rfl
  g_look_at := He.glo_ok X G (c.fact 10 (f := .glo "look_at") rfl)
  k_look_at := He.keep_ok (c.fact 11 (f := .keep "look_at") rfl)
  F_look_at := c.def_ 5 (d := d_look_at) rfl
  F_Desk_init__ := c.def_ 6 (d := d_Desk_init__) rfl
  m_Desk_look_for := He.meth_ok (c.fact 12 (f := .meth "Desk" "look_for") rfl)
  F_Desk_look_for := c.def_ 7 (d := d_Desk_look_for) rfl
  m_Desk_chosen := He.meth_ok (c.fact 13 (f := .meth "Desk" "chosen") rfl)
  F_Desk_chosen := c.def_ 8 (d := d_Desk_chosen) rfl
  m_Desk_begin := He.meth_ok (c.fact 14 (f := .meth "Desk" "begin") rfl)
  F_Desk_begin := c.def_ 9 (d := d_Desk_begin) rfl
  m_Desk_stores := He.meth_ok (c.fact 15 (f := .meth "Desk" "stores") rfl)
  F_Desk_stores := c.def_ 10 (d := d_Desk_stores) rfl
  m_Desk_patches := He.meth_ok (c.fact 16 (f := .meth "Desk" "patches") rfl)
  F_Desk_patches := c.def_ 11 (d := d_Desk_patches) rfl
  m_Desk_has := He.meth_ok (c.fact 17 (f := .meth "Desk" "has") rfl)
  F_Desk_has := c.def_ 12 (d := d_Desk_has) rfl
  m_Desk_row := He.meth_ok (c.fact 18 (f := .meth "Desk" "row") rfl)
  F_Desk_row := c.def_ 13 (d := d_Desk_row) rfl
  m_Desk_files := He.meth_ok (c.fact 19 (f := .meth "Desk" "files") rfl)
  F_Desk_files := c.def_ 14 (d := d_Desk_files) rfl
  g_law_cell_at := He.glo_ok X G (c.fact 20 (f := .glo "_law_cell_at") rfl)
  k_law_cell_at := He.keep_ok (c.fact 21 (f := .keep "_law_cell_at") rfl)
  F_law_cell_at := c.def_ 15 (d := d_law_cell_at) rfl
  g_law_name := He.glo_ok X G (c.fact 22 (f := .glo "_law_name") rfl)
  k_law_name := He.keep_ok (c.fact 23 (f := .keep "_law_name") rfl)
  F_law_name := c.def_ 16 (d := d_law_name) rfl
  g_law_names_are := He.glo_ok X G (c.fact 24 (f := .glo "_law_names_are") rfl)
  k_law_names_are := He.keep_ok (c.fact 25 (f := .keep "_law_names_are") rfl)
  F_law_names_are := c.def_ 17 (d := d_law_names_are) rfl
  g_law_which := He.glo_ok X G (c.fact 26 (f := .glo "_law_which") rfl)
  k_law_which := He.keep_ok (c.fact 27 (f := .keep "_law_which") rfl)
  F_law_which := c.def_ 18 (d := d_law_which) rfl
  g_law_due := He.glo_ok X G (c.fact 28 (f := .glo "_law_due") rfl)
  k_law_due := He.keep_ok (c.fact 29 (f := .keep "_law_due") rfl)
  F_law_due := c.def_ 19 (d := d_law_due) rfl
  g_law_asked := He.glo_ok X G (c.fact 30 (f := .glo "_law_asked") rfl)
  k_law_asked := He.keep_ok (c.fact 31 (f := .keep "_law_asked") rfl)
  F_law_asked := c.def_ 20 (d := d_law_asked) rfl
  g_law_odd_name := He.glo_ok X G (c.fact 32 (f := .glo "_law_odd_name") rfl)
  k_law_odd_name := He.keep_ok (c.fact 33 (f := .keep "_law_odd_name") rfl)
  F_law_odd_name := c.def_ 21 (d := d_law_odd_name) rfl
  g_law := He.glo_ok X G (c.fact 34 (f := .glo "law") rfl)
  k_law := He.keep_ok (c.fact 35 (f := .keep "law") rfl)
  F_law := c.def_ 22 (d := d_law) rfl
  g_Desk := He.glo_ok X G (c.fact 36 (f := .glo "Desk") rfl)
  c_Desk := He.cls_ok (c.fact 37 (f := .cls "Desk") rfl)
  m_Desk := He.mkr_ok (c.fact 38 (f := .mkr "Desk") rfl)
  n_Desk_made := He.noat_ok (c.fact 39 (f := .noat "Desk" "made") rfl)
  n_Desk_having := He.noat_ok (c.fact 40 (f := .noat "Desk" "having") rfl)
  g_PatchError := He.glo_ok X G (c.fact 41 (f := .glo "PatchError") rfl)
  x_PatchError := (He.exc_ok (c.fact 42 (f := .exc "PatchError") rfl)).1
  k_PatchError := (He.exc_ok (c.fact 42 (f := .exc "PatchError") rfl)).2.1
  s_PatchError := (He.exc_ok (c.fact 42 (f := .exc "PatchError") rfl)).2.2.1
  t_PatchError := (He.exc_ok (c.fact 42 (f := .exc "PatchError") rfl)).2.2.2
  g_BadName := He.glo_ok X G (c.fact 43 (f := .glo "BadName") rfl)
  x_BadName := (He.exc_ok (c.fact 44 (f := .exc "BadName") rfl)).1
  k_BadName := (He.exc_ok (c.fact 44 (f := .exc "BadName") rfl)).2.1
  s_BadName := (He.exc_ok (c.fact 44 (f := .exc "BadName") rfl)).2.2.1
  t_BadName := (He.exc_ok (c.fact 44 (f := .exc "BadName") rfl)).2.2.2
  g_NameTaken := He.glo_ok X G (c.fact 45 (f := .glo "NameTaken") rfl)
  x_NameTaken := (He.exc_ok (c.fact 46 (f := .exc "NameTaken") rfl)).1
  k_NameTaken := (He.exc_ok (c.fact 46 (f := .exc "NameTaken") rfl)).2.1
  s_NameTaken := (He.exc_ok (c.fact 46 (f := .exc "NameTaken") rfl)).2.2.1
  t_NameTaken := (He.exc_ok (c.fact 46 (f := .exc "NameTaken") rfl)).2.2.2
  g_NoStore := He.glo_ok X G (c.fact 47 (f := .glo "NoStore") rfl)
  x_NoStore := (He.exc_ok (c.fact 48 (f := .exc "NoStore") rfl)).1
  k_NoStore := (He.exc_ok (c.fact 48 (f := .exc "NoStore") rfl)).2.1
  s_NoStore := (He.exc_ok (c.fact 48 (f := .exc "NoStore") rfl)).2.2.1
  t_NoStore := (He.exc_ok (c.fact 48 (f := .exc "NoStore") rfl)).2.2.2
  g_NoPatch := He.glo_ok X G (c.fact 49 (f := .glo "NoPatch") rfl)
  x_NoPatch := (He.exc_ok (c.fact 50 (f := .exc "NoPatch") rfl)).1
  k_NoPatch := (He.exc_ok (c.fact 50 (f := .exc "NoPatch") rfl)).2.1
  s_NoPatch := (He.exc_ok (c.fact 50 (f := .exc "NoPatch") rfl)).2.2.1
  t_NoPatch := (He.exc_ok (c.fact 50 (f := .exc "NoPatch") rfl)).2.2.2
  g_NoLine := He.glo_ok X G (c.fact 51 (f := .glo "NoLine") rfl)
  x_NoLine := (He.exc_ok (c.fact 52 (f := .exc "NoLine") rfl)).1
  k_NoLine := (He.exc_ok (c.fact 52 (f := .exc "NoLine") rfl)).2.1
  s_NoLine := (He.exc_ok (c.fact 52 (f := .exc "NoLine") rfl)).2.2.1
  t_NoLine := (He.exc_ok (c.fact 52 (f := .exc "NoLine") rfl)).2.2.2
  g_Unsettled := He.glo_ok X G (c.fact 53 (f := .glo "Unsettled") rfl)
  x_Unsettled := (He.exc_ok (c.fact 54 (f := .exc "Unsettled") rfl)).1
  k_Unsettled := (He.exc_ok (c.fact 54 (f := .exc "Unsettled") rfl)).2.1
  s_Unsettled := (He.exc_ok (c.fact 54 (f := .exc "Unsettled") rfl)).2.2.1
  t_Unsettled := (He.exc_ok (c.fact 54 (f := .exc "Unsettled") rfl)).2.2.2
  g_Same := He.glo_ok X G (c.fact 55 (f := .glo "Same") rfl)
  x_Same := (He.exc_ok (c.fact 56 (f := .exc "Same") rfl)).1
  k_Same := (He.exc_ok (c.fact 56 (f := .exc "Same") rfl)).2.1
  s_Same := (He.exc_ok (c.fact 56 (f := .exc "Same") rfl)).2.2.1
  t_Same := (He.exc_ok (c.fact 56 (f := .exc "Same") rfl)).2.2.2
  g_Leant := He.glo_ok X G (c.fact 57 (f := .glo "Leant") rfl)
  x_Leant := (He.exc_ok (c.fact 58 (f := .exc "Leant") rfl)).1
  k_Leant := (He.exc_ok (c.fact 58 (f := .exc "Leant") rfl)).2.1
  s_Leant := (He.exc_ok (c.fact 58 (f := .exc "Leant") rfl)).2.2.1
  t_Leant := (He.exc_ok (c.fact 58 (f := .exc "Leant") rfl)).2.2.2
  b_dict := He.free_ok X G (c.fact 59 (f := .free "dict") rfl)
  b_enumerate := He.free_ok X G (c.fact 60 (f := .free "enumerate") rfl)
  b_isinstance := He.free_ok X G (c.fact 61 (f := .free "isinstance") rfl)
  b_len := He.free_ok X G (c.fact 62 (f := .free "len") rfl)
  b_list := He.free_ok X G (c.fact 63 (f := .free "list") rfl)
  b_range := He.free_ok X G (c.fact 64 (f := .free "range") rfl)
  b_reversed := He.free_ok X G (c.fact 65 (f := .free "reversed") rfl)
  b_sorted := He.free_ok X G (c.fact 66 (f := .free "sorted") rfl)
  b_str := He.free_ok X G (c.fact 67 (f := .free "str") rfl)
  b_ValueError := He.free_ok X G (c.fact 68 (f := .free "ValueError") rfl)
  v_SIGNS := He.str_ok X G (c.fact 69 (f := .str "SIGNS" "abcdefghijklmnopqrstuvwxyz0123456789") rfl)
  xx := m
  e_BadName := He.exm_ok (c.fact 70 (f := .exm "BadName" "PatchError" true) rfl)
  e_NameTaken := He.exm_ok (c.fact 71 (f := .exm "NameTaken" "PatchError" true) rfl)
end PkB
open PySem PySem.W PySem.Calls PyProof.Rows
theorem PySem.Challenge.cw_patchkin_k02_stores_begun_holds : PySem.Challenge.rw_patchkin_k02_stores_begun.Holds := by
  w_on; o_law
  refine HandSHeadRun.head_any (r := OpenLaw.row PySem.Challenge.rw_patchkin_k02_stores_begun) (q := view (OpenLaw.row PySem.Challenge.rw_patchkin_k02_stores_begun).prog [30]) (H := PkB.hk) (ob := PkB.ob) (M := 4000) (loose := PkB.loose) (d := HandSHeadRun.topDef (OpenLaw.row PySem.Challenge.rw_patchkin_k02_stores_begun).prog 30) (kwd := []) PkB.ob_eq
    (by kernel_rfl) (fun s => by kernel_rfl) PkB.run (by kernel_rfl) (by kernel_rfl) (by kernel_rfl) (by rfl) (by first | assumption | decide +kernel) (by decide +kernel) ⟨rfl, rfl, rfl, rfl, rfl, by decide +kernel⟩ ?hw ?hc
  case hw => w_witness2
  case hc =>
    refine L2.walk_ofE (l := PySem.Challenge.rw_patchkin_k02_stores_begun) (n := 63) (k := 6) (x := "script") (CX := L2.CX0) rfl (by decide) (by kernel_rfl) ⟨rfl, by decide, by decide⟩ ?F (fun _ _ _ _ z => z)
    intro w mg fa h Y G hmg0
    obtain ⟨K, KX, c⟩ := Y
    have hmg : mg ("law" : PySem.Str) = some (.ref fa) := by
      have e : (HandSHeadRun.topDef (OpenLaw.row PySem.Challenge.rw_patchkin_k02_stores_begun).prog 30).name = ("law" : PySem.Str) := by kernel_rfl
      rw [← e]
      exact hmg0
    have T : PkB.Txt K mg := PkB.txt_of KX G c.t.d c.more
    obtain ⟨fd, F⟩ := T.F_law
    have b := F.bindsA (ps := ["script"]) fun _ _ _ _ _ _ us hl => match us, hl with | [_], _ => rfl
    have ea : He.fAd K ("law", none) = fa := by
      have z := hmg.symm.trans T.g_law
      cases z
      rfl
    refine ⟨K, fd, PkB.sp_law K, KX, fun s v => b s [v] rfl, fun H a ns hl _ hS => ⟨a, ns, rfl, hS, fun _ => rfl⟩, fun base _ _ => ?_⟩
    have z := PkB.ok_law (P := (PySem.Challenge.rw_patchkin_k02_stores_begun).prog) (w := w) (base := base) T F
    rw [ea] at z
    exact z
