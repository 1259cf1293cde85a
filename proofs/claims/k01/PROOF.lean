import PyProof.Rows.All
import Wide.All
import OpenK.AllK
import Wide.FinOn
import KE.KStateDown
import Lean
import HandS.ForMost
import HandS.Evl
import HandS.Exc
import HandS.WordsExc
import HandS.Defaults
import HandS.Conv
import HandS.RevRange
import HandS.Deep
import HandS.IsInst
import HandS.Head0
import HandS.Head1
import HandS.Head2
import HandS.HeadEnd
import HandS.HeadHook1
import HandS.HeadHook2
import HandS.HeadHook3
import HandS.HeadHook4
import PySem.Challenge.RW_patchkin_k01_kept
set_option Elab.async false
set_option linter.all false
set_option maxRecDepth 100000
set_option maxHeartbeats 4000000
namespace Pk
open PySem PySem.Spec PyProof.Rows L2
/-! ### heaps that grow -/
/-- all that H tells stands in H' -/
def Ex (H H' : Hp) : Prop := ∀ a o, H a = some o → H' a = some o
theorem Ex.refl (H : Hp) : Ex H H := fun _ _ e => e
theorem Ex.trans {H H1 H2 : Hp} (a : Ex H H1) (b : Ex H1 H2) : Ex H H2 := fun x o e => b x o (a x o e)
theorem Ex.at {H H1 : Hp} {a : Addr} {o : HO} (e : Ex H H1) (h : H a = some o) : H1 a = some o := e a o h
theorem Ex.new {H : Hp} {p : Addr} {o : HO} (h : H p = none) : Ex H (upd H p o) := fun a x e => by
  rw [upd_ne (ne_of_none e h)]
  exact e
/-- an object that H does not know may change -/
theorem Ex.mut {H H1 : Hp} {p : Addr} {o : HO} (e : Ex H H1) (h : H p = none) : Ex H (upd H1 p o) := fun a x q => by
  rw [upd_ne (ne_of_none q h)]
  exact e a x q
theorem Ex.back {H H1 : Hp} {p : Addr} (e : Ex H H1) (h : H1 p = none) : H p = none := by
  cases q : H p with
  | none => rfl
  | some o =>
    have z := e p o q
    rw [h] at z
    cases z
theorem Ex.seqL {K : PySem.W.Frag} {H H1 : Hp} {a : Addr} {xs : List V} (e : Ex H H1) (h : SqL K H a xs) : SqL K H1 a xs := Same.seq (H := H) e h
theorem Ex.rd {H H1 : Hp} {a : Addr} {u : HO} (e : Ex H H1) (h : Rd H a u) : Rd H1 a u := by
  rcases h with h | ⟨o, h⟩
  · exact .inl (e _ _ h)
  · exact .inr ⟨o, e _ _ h⟩
theorem Ex.seqT {K : PySem.W.Frag} {H H1 : Hp} {a : Addr} {xs : List V} (e : Ex H H1) (h : SqT K H a xs) : SqT K H1 a xs := by
  rcases h with h | h
  · exact .inl (e.rd h)
  · exact .inr h
mutual
theorem Ex.dp {K : PySem.W.Frag} {H H1 : Hp} (e : Ex H H1) : ∀ {v : V} {d : PyData}, Dp K H v d → Dp K H1 v d
  | _, _, .non => .non
  | _, _, .bl b => .bl b
  | _, _, .int i => .int i
  | _, _, .str x => .str x
  | _, _, .lst h r => .lst (e.seqL h) (e.dps r)
  | _, _, .tup h r => .tup (e.seqT h) (e.dps r)
theorem Ex.dps {K : PySem.W.Frag} {H H1 : Hp} (e : Ex H H1) : ∀ {vs : List V} {ds : List PyData}, DpAll K H vs ds → DpAll K H1 vs ds
  | _, _, .nil => .nil
  | _, _, .cons h r => .cons (e.dp h) (e.dps r)
end
theorem keep_new {H : Hp} {a p : Addr} {o x : HO} (hp : H p = none) (h : H a = some x) : upd H p o a = some x := Ex.new hp a x h
theorem lay_ex {H H1 : Hp} {p : Addr} {o : HO} (hp : H p = none) (q : upd H p o = H1) : Ex H H1 := q ▸ Ex.new hp
theorem lay_at {H H1 : Hp} {p : Addr} {o : HO} (q : upd H p o = H1) : H1 p = some o := q ▸ upd_same
theorem lay_mut {H H1 : Hp} {p : Addr} {o : HO} (q : upd H p o = H1) : ∀ a x, a ≠ p → H a = some x → H1 a = some x := fun a x n h => by
  rw [← q, upd_ne n]
  exact h
/-- behind a change of an object that H0 does not know -/
theorem Ex.mut2 {H0 H H1 : Hp} {p : Addr} (e : Ex H0 H) (h : H0 p = none) (m : ∀ a x, a ≠ p → H a = some x → H1 a = some x) : Ex H0 H1 := fun a x q => m a x (ne_of_none q h) (e a x q)
theorem line_le {n : Nat} (h : n ≤ 100000) : n ≤ sizeLine := by
  rw [sizeLine_eq]
  exact Nat.le_trans h (by decide)
theorem line_lt {n : Nat} (h : n < 100000) : n < sizeLine := by
  rw [sizeLine_eq]
  exact Nat.lt_of_lt_of_le h (by decide)
/-! ### a def that keeps its promise, with how it binds -/
structure Ok (P : Program) (w : World) (K : PySem.W.Frag) (mg : Str → Option Value) (base : Heap) (C : CXT) (k : Nat) (f : Addr) (ps : List Str) (sp : Sp) : Prop where
  ex : ∃ fd : FuncData, FnOk P w K mg base C k f fd ps sp ∧ Binds K fd ps []
/-! ### readings, step by step -/
section
variable {σ : L2.St} {H : Hp} {Q : VK} {K : PySem.W.Frag} {D : Ends} {ta tb tc te : TE} {t u : TS} {tt tu : TT} {a p : Addr} {xs : List V} {i j : Int} {v x y : V}
theorem rd_var {n : Nat} (h : σ[n]? = some (some v)) (q : Q v H) : tVar n σ H Q := ⟨v, h, q⟩
theorem rd_c (q : Q v H) : tC v σ H Q := q
theorem rd_op {r : R2} (q : ta σ H fun x H1 => tb σ H1 fun y H2 => r x y H2 Q) : tOp r ta tb σ H Q := q
theorem rd_un {r : V → Hp → VK → Prop} (q : ta σ H fun x H1 => r x H1 Q) : tUn r ta σ H Q := q
theorem rd_I0 {g : Int → Int → V} (q : Q (g i j) H) : rI0 g (.int i) (.int j) H Q := ⟨i, j, rfl, rfl, q⟩
theorem rd_I {C : Int → Int → Prop} {g : Int → Int → V} (c : C i j) (q : Q (g i j) H) : rI C g (.int i) (.int j) H Q := ⟨i, j, rfl, rfl, c, q⟩
theorem rd_U {g : Int → V} (q : Q (g i) H) : rU g (.int i) H Q := ⟨i, rfl, q⟩
theorem dec_int' : decide (V.int i = V.int j) = decide (i = j) := decide_eq_decide.mpr ⟨fun h => V.int.inj h, fun h => congrArg _ h⟩
theorem dec_str' {i j : Str} : decide (V.str i = V.str j) = decide (i = j) := decide_eq_decide.mpr ⟨fun h => V.str.inj h, fun h => congrArg _ h⟩
theorem rd_eqi (q : Q (.bl (decide (i = j))) H) : rEq (.int i) (.int j) H Q := ⟨rfl, by rw [dec_int']; exact q⟩
theorem rd_nei (q : Q (.bl (!decide (i = j))) H) : rNe (.int i) (.int j) H Q := ⟨rfl, by rw [dec_int']; exact q⟩
theorem rd_eqs {i j : Str} (q : Q (.bl (decide (i = j))) H) : rEq (.str i) (.str j) H Q := ⟨rfl, by rw [dec_str']; exact q⟩
theorem rd_nes {i j : Str} (q : Q (.bl (!decide (i = j))) H) : rNe (.str i) (.str j) H Q := ⟨rfl, by rw [dec_str']; exact q⟩
theorem rd_tup {t : TA} (q : t σ H fun xs H1 => xs.length ≤ sizeLine ∧ ∀ p, H1 p = none → Q (.ref p) (upd H1 p (.tup xs))) : tTup t σ H Q := q
theorem rd_lst {t : TA} (q : t σ H fun xs H1 => xs.length ≤ sizeLine ∧ ∀ p, H1 p = none → Q (.ref p) (upd H1 p (.lst xs))) : tLst t σ H Q := q
theorem rd_nil {Q : List V → Hp → Prop} (q : Q [] H) : tNil σ H Q := q
theorem rd_cons {t : TA} {Q : List V → Hp → Prop} (q : ta σ H fun x H1 => t σ H1 fun xs H2 => Q (x :: xs) H2) : tCons ta t σ H Q := q
theorem rd_cb {r : List V → Hp → VK → Prop} {t : TA} (q : t σ H fun vs H1 => r vs H1 Q) : tCB r t σ H Q := q
theorem rd_call {sp : Sp} {dvs : List V} {E : XK} {t : TA} (q : t σ H fun vs H1 => sp (vs ++ dvs) H1 Q E) : tCall sp dvs E t σ H Q := q
theorem rd_test {Q : Bool → Hp → Prop} (q : te σ H fun x H1 => ∃ k, x = .bl k ∧ Q k H1) : tTest te σ H Q := q
theorem rd_B {Q : Bool → Hp → Prop} (q : te σ H fun x H1 => ∃ k, x = .bl k ∧ Q k H1) : tB te σ H Q := q
theorem rd_tand {Q : Bool → Hp → Prop} (q : tt σ H fun c H1 => if c = true then tu σ H1 Q else Q false H1) : tAnd tt tu σ H Q := q
theorem rd_tor {Q : Bool → Hp → Prop} (q : tt σ H fun c H1 => if c = true then Q true H1 else tu σ H1 Q) : tOr tt tu σ H Q := q
theorem rd_tnot {Q : Bool → Hp → Prop} (q : tt σ H fun c H1 => Q (!c) H1) : tNot tt σ H Q := q
theorem rd_andV (q : ta σ H fun x H1 => ∃ c, x = .bl c ∧ if c = true then tb σ H1 Q else Q (.bl false) H1) : tAndV ta tb σ H Q := q
theorem rd_orV (q : ta σ H fun x H1 => ∃ c, x = .bl c ∧ if c = true then Q (.bl true) H1 else tb σ H1 Q) : tOrV ta tb σ H Q := q
theorem rd_notV (q : ta σ H fun x H1 => ∃ c, x = .bl c ∧ Q (.bl (!c)) H1) : tNotV ta σ H Q := q
theorem rd_ifx (q : tt σ H fun c H1 => if c = true then ta σ H1 Q else tb σ H1 Q) : tIf tt ta tb σ H Q := q
theorem rd_chain {r r' : R2} (q : ta σ H fun x H1 => tb σ H1 fun y H2 => r x y H2 fun z H3 => ∃ k, z = .bl k ∧ (if k = true then tc σ H3 fun w' H4 => r' y w' H4 Q else Q (.bl false) H3)) : tChain r r' ta tb tc σ H Q := q
theorem rd_bl {B : Bool → Prop} {b : Bool} (q : B b) : ∃ k, V.bl b = V.bl k ∧ B k := ⟨b, rfl, q⟩
theorem rd_ixL (h : SqL K H p xs) (ha : atI xs i = some v) (q : Q v H) : rIxL K (.ref p) (.int i) H Q := ⟨p, xs, i, v, rfl, rfl, h, ha, q⟩
theorem rd_ixT (h : SqT K H p xs) (ha : atI xs i = some v) (q : Q v H) : rIxT K (.ref p) (.int i) H Q := ⟨p, xs, i, v, rfl, rfl, h, ha, q⟩
theorem rd_lenL {B : Addr → List V → Prop} (h : SqL K H a xs) (q : B a xs) : ∃ p ys, [V.ref a] = [V.ref p] ∧ (SqL K H p ys ∨ SqT K H p ys) ∧ B p ys := ⟨a, xs, rfl, .inl h, q⟩
theorem rd_lenT {B : Addr → List V → Prop} (h : SqT K H a xs) (q : B a xs) : ∃ p ys, [V.ref a] = [V.ref p] ∧ (SqL K H p ys ∨ SqT K H p ys) ∧ B p ys := ⟨a, xs, rfl, .inr h, q⟩
theorem rd_lenS {B : Str → Prop} {s : Str} (h : s.length ≤ sizeLine) (q : B s) : ∃ z, [V.str s] = [V.str z] ∧ z.length ≤ sizeLine ∧ B z := ⟨s, rfl, h, q⟩
theorem rd_int2 {B : Int → Int → Prop} (q : B i j) : ∃ a b, [V.int i, V.int j] = [V.int a, V.int b] ∧ B a b := ⟨i, j, rfl, q⟩
theorem rd_int1 {B : Int → Prop} (q : B i) : ∃ a, [V.int i] = [V.int a] ∧ B a := ⟨i, rfl, q⟩
theorem rd_intb {A : Prop} {B : Bool → Prop} {b : Bool} (q : B b) : A ∨ ∃ k, [V.bl b] = [V.bl k] ∧ B k := .inr ⟨b, rfl, q⟩
theorem rd_isn {B : Prop} (q : B) : V.non = V.non ∧ B := ⟨rfl, q⟩
theorem rd_isN {B : Bool → Prop} {b : Bool} (h : decide (x = .non) = b) (q : B b) : V.non = V.non ∧ B (decide (x = .non)) := ⟨rfl, by rw [h]; exact q⟩
/-! statements -/
theorem rd_seq (q : t { D with nx := u D } σ H) : tSeq t u D σ H := q
theorem rd_cut (M : L2.St → Hp → Prop) (h : t { D with nx := M } σ H) (k : ∀ σ' H', M σ' H' → u D σ' H') : Evl.tCut t u D σ H := ⟨M, h, k⟩
theorem rd_next (q : D.nx σ H) : tNext D σ H := q
theorem rd_brk (q : D.bk σ H) : tBreak D σ H := q
theorem rd_asg {g : TG} (q : te σ H fun x H1 => g x σ H1 D.nx) : tAsg te g D σ H := q
theorem rd_gname {n : Nat} {Q : L2.St → Hp → Prop} (q : Q (σ.set n (some v)) H) : gName n v σ H Q := q
theorem rd_gsub {to ti : TE} {s : TSet} {Q : L2.St → Hp → Prop} (q : to σ H fun o H1 => ti σ H1 fun i H2 => s o i v H2 fun H3 => Q σ H3) : gSub to ti s v σ H Q := q
theorem rd_setL {Q : Hp → Prop} {l : Addr} {k : Nat} (h : H l = some (.lst xs)) (hk : k < xs.length) (q : Q (upd H l (.lst (xs.set k v)))) : rSetL (.ref l) (.int (k : Int)) v H Q :=
  ⟨l, xs, (k : Int), k, rfl, rfl, h, by unfold ixN; rw [if_pos (by omega), if_pos (by omega)]; simp, q⟩
theorem rd_drop (q : te σ H fun _ H1 => D.nx σ H1) : tDrop te D σ H := q
theorem rd_ret (q : te σ H D.rt) : tRet te D σ H := q
theorem rd_retN (q : D.rt .non H) : tRetN D σ H := q
theorem rd_ifs {c : TT} (q : c σ H fun b H1 => if b = true then t D σ H1 else u D σ H1) : tIfS c t u D σ H := q
theorem rd_nx {nx : L2.St → Hp → Prop} {rt : VK} {bk ct : L2.St → Hp → Prop} (q : nx σ H) : Ends.nx ⟨nx, rt, bk, ct⟩ σ H := q
theorem rd_rt {nx : L2.St → Hp → Prop} {rt : VK} {bk ct : L2.St → Hp → Prop} (q : rt v H) : Ends.rt ⟨nx, rt, bk, ct⟩ v H := q
theorem rd_bk {nx : L2.St → Hp → Prop} {rt : VK} {bk ct : L2.St → Hp → Prop} (q : bk σ H) : Ends.bk ⟨nx, rt, bk, ct⟩ σ H := q
theorem rd_T {A B : Prop} (q : A) : if true = true then A else B := by rw [if_pos rfl]; exact q
theorem rd_F {A B : Prop} (q : B) : if false = true then A else B := by rw [if_neg Bool.false_ne_true]; exact q
theorem rd_nT {A B : Prop} (q : B) : if (!true) = true then A else B := by rw [if_neg (by decide)]; exact q
theorem rd_nF {A B : Prop} (q : A) : if (!false) = true then A else B := by rw [if_pos (by decide)]; exact q
theorem rd_dec {p A B : Prop} [Decidable p] (h1 : p → A) (h2 : ¬ p → B) : if decide p = true then A else B := by
  by_cases c : p
  · rw [if_pos (decide_eq_true c)]; exact h1 c
  · rw [if_neg (by rw [decide_eq_false c]; exact Bool.false_ne_true)]; exact h2 c
theorem rd_ndec {p A B : Prop} [Decidable p] (h1 : ¬ p → A) (h2 : p → B) : if (!decide p) = true then A else B := by
  by_cases c : p
  · rw [if_neg (by rw [decide_eq_true c]; decide)]; exact h2 c
  · rw [if_pos (by rw [decide_eq_false c]; rfl)]; exact h1 c
theorem rd_yes {p A B : Prop} [Decidable p] (c : p) (h : A) : if decide p = true then A else B := rd_dec (fun _ => h) (fun n => absurd c n)
theorem rd_no {p A B : Prop} [Decidable p] (c : ¬ p) (h : B) : if decide p = true then A else B := rd_dec (fun n => absurd n c) (fun _ => h)
theorem rd_nyes {p A B : Prop} [Decidable p] (c : p) (h : B) : if (!decide p) = true then A else B := rd_ndec (fun n => absurd c n) (fun _ => h)
theorem rd_nno {p A B : Prop} [Decidable p] (c : ¬ p) (h : A) : if (!decide p) = true then A else B := rd_ndec (fun _ => h) (fun n => absurd n c)
theorem rd_any {b : Bool} {A B : Prop} (h1 : b = true → A) (h2 : b = false → B) : if b = true then A else B := by
  cases b
  · exact rd_F (h2 rfl)
  · exact rd_T (h1 rfl)
/-! methods of lists -/
theorem rd_bm {T : String} {r : V → List V → Hp → VK → Prop} {t : TA} (q : te σ H fun x H1 => tyV K T x H1 ∧ t σ H1 fun xs H2 => r x xs H2 Q) : tBM K T r te t σ H Q := q
theorem rd_bm0 {T : String} {r : V → List V → Hp → VK → Prop} (q : te σ H fun x H1 => tyV K T x H1 ∧ r x [] H1 Q) : tBM0 K T r te σ H Q := q
theorem rd_tyL {B : Prop} (h : SqL K H p xs) (q : B) : tyV K "list" (.ref p) H ∧ B := ⟨.inl ⟨rfl, _, h⟩, q⟩
theorem rd_app {l : Addr} (h : H l = some (.lst xs)) (hl : xs.length < sizeLine) (q : Q .non (upd H l (.lst (xs ++ [v])))) : rAppend (.ref l) [v] H Q := ⟨l, xs, v, rfl, rfl, h, hl, q⟩
/-! loops -/
/-- what a for asks of the iterator that came -/
abbrev ForOf (g : TG) (t : TS) (D : Ends) (σ : L2.St) (J : It) (H : Hp) : Prop := ∃ W : Nat → Nat → L2.St → Hp → Prop, (∃ m, W 0 m σ H) ∧ ∀ i m σ H, W i m σ H →
  (J.stop i H ∧ D.nx σ H) ∨ (J.go i H ∧ ∃ N : L2.St → Hp → Prop, (∀ σ' H', N σ' H' → ∃ m', m' < m ∧ W (i + 1) m' σ' H') ∧ ∀ x H', J.yld i H x H' → g x σ H' fun σ2 H2 => t { D with nx := N, ct := N, bk := D.nx } σ2 H2)
theorem rd_for {wi : TI} {g : TG} (q : wi σ H (ForOf g t D σ)) : tFor wi g t D σ H := q
theorem rd_rng1 {tl : TA} {R : It → Hp → Prop} (q : tl σ H fun vs H1 => ∃ j : Int, vs = [.int j] ∧ -(2 ^ 62) ≤ j ∧ j < 2 ^ 62 ∧ R (Itr 0 j.toNat) H1) : iRng1 tl σ H R := q
theorem rd_rng2 {tl : TA} {R : It → Hp → Prop} (q : tl σ H fun vs H1 => ∃ i j : Int, vs = [.int i, .int j] ∧ (-(2 ^ 62) ≤ i ∧ i < 2 ^ 62 ∧ -(2 ^ 62) ≤ j ∧ j < 2 ^ 62) ∧ R (Itr i (j - i).toNat) H1) : iRng2 tl σ H R := q
theorem rd_revR {tr : L2.St → Hp → (Int → Int → Hp → Prop) → Prop} {R : It → Hp → Prop} (q : tr σ H fun a b H1 => -(2 ^ 62) ≤ a ∧ a < 2 ^ 62 ∧ -(2 ^ 62) ≤ b ∧ b < 2 ^ 62 ∧ R (Itc (a + (((b - a).toNat : Nat) : Int) - 1) (-1) (b - a).toNat) H1) : iRevR tr σ H R := q
theorem rd_rg1 {R : Int → Int → Hp → Prop} (q : te σ H fun x H1 => ∃ n, x = .int n ∧ R 0 n H1) : tRg1 te σ H R := q
theorem rd_rg2 {R : Int → Int → Hp → Prop} (q : ta σ H fun x H1 => tb σ H1 fun y H2 => ∃ i j, x = .int i ∧ y = .int j ∧ R i j H2) : tRg2 ta tb σ H R := q
theorem rd_iList {tl : TE} {R : It → Hp → Prop} (q : tl σ H fun x H1 => ∃ a, x = .ref a ∧ (∃ xs, SqL K H1 a xs) ∧ R (Itl K a) H1) : iList K tl σ H R := q
theorem rd_ref {B : Addr → Prop} (q : B a) : ∃ p, V.ref a = V.ref p ∧ B p := ⟨a, rfl, q⟩
theorem rd_int {B : Int → Prop} (q : B i) : ∃ n, V.int i = V.int n ∧ B n := ⟨i, rfl, q⟩
theorem rd_while {c : TT} (q : ∃ W : Nat → L2.St → Hp → Prop, (∃ m, W m σ H) ∧ ∀ m σ H, W m σ H →
    c σ H fun b H1 => if b = true then ∃ N : L2.St → Hp → Prop, (∀ σ' H', N σ' H' → ∃ m', m' < m ∧ W m' σ' H') ∧ t { D with nx := N, ct := N, bk := D.nx } σ H1 else D.nx σ H1) : tWhile c t D σ H := q
theorem rd_forL {g : TG} (h : SqL K H a xs) (q : ∃ W : Nat → Nat → L2.St → Hp → Prop, (∃ m, W 0 m σ H) ∧ ∀ i m σ H, W i m σ H →
    ((Itl K a).stop i H ∧ D.nx σ H) ∨ ((Itl K a).go i H ∧ ∃ N : L2.St → Hp → Prop, (∀ σ' H', N σ' H' → ∃ m', m' < m ∧ W (i + 1) m' σ' H') ∧ ∀ x H', (Itl K a).yld i H x H' → g x σ H' fun σ2 H2 => t { D with nx := N, ct := N, bk := D.nx } σ2 H2))
    {n : Nat} (hv : σ[n]? = some (some (.ref a))) : tFor (iList K (tVar n)) g t D σ H := ⟨_, hv, a, rfl, ⟨_, h⟩, q⟩
end
/-! ### lists by places -/
theorem at_nat {α : Type} {xs : List α} {k : Nat} {v : α} (h : xs[k]? = some v) : atI xs (k : Int) = some v := atI_nat h
theorem at_int {α : Type} {xs : List α} {i : Int} {v : α} (h0 : 0 ≤ i) (h : xs[i.toNat]? = some v) : atI xs i = some v := by
  obtain ⟨k, rfl⟩ := Int.eq_ofNat_of_zero_le h0
  exact atI_nat (by simpa using h)
theorem at_mapN {α β : Type} {f : α → β} {xs : List α} {k : Nat} (h : k < xs.length) : atI (xs.map f) (k : Int) = some (f xs[k]) := atI_nat (by
  rw [List.getElem?_map, List.getElem?_eq_getElem h]
  rfl)
theorem at_map {α β : Type} {f : α → β} {xs : List α} {i : Int} (h0 : 0 ≤ i) (h : i.toNat < xs.length) : atI (xs.map f) i = some (f xs[i.toNat]) := at_int h0 (by
  rw [List.getElem?_map, List.getElem?_eq_getElem h]
  rfl)
end Pk
namespace Pk
open PySem PySem.Spec PyProof.Rows L2
theorem units65 {k : Nat} {A : Around} (r : Room k A) : A.units + 65 < cLine := Nat.lt_of_le_of_lt (by omega) r.un
end Pk
namespace Pk
open PySem PySem.Spec PyProof.Rows L2
/-! ### the rules with the written part told (within a comprehension's block no reading may hang on the block) -/
section
variable (K : PySem.W.Frag) {X : Cx} {a b e o : Expr} {es : List Expr} {ta tb te tl : TE} {t : TA} {pos apos cpos : Pos} {f : Str}
theorem ixL (h : X.K = K := by rfl) : IxR X (rIxL K) := by subst h; exact ix_list
theorem ixT (h : X.K = K := by rfl) : IxR X (rIxT K) := by subst h; exact ix_tup
/-- len of a list or tuple -/
def rLen : List V → Hp → VK → Prop := fun xs H Q => ∃ p ys, xs = [.ref p] ∧ (SqL K H p ys ∨ SqT K H p ys) ∧ Q (.int ys.length) H
theorem lenK (h : X.K = K := by rfl) : CallR X (.builtin "len") (rLen K) := by subst h; exact call_len_seq
theorem inSq (h : X.K = K := by rfl) : OpR X (compareOp .In) (rIn K false) := by subst h; exact op_in_seq
theorem ninSq (h : X.K = K := by rfl) : OpR X (compareOp .NotIn) (rIn K true) := by subst h; exact op_notIn_seq
theorem eqDK (hu : X.A.units + 64 < cLine) (h : X.K = K := by rfl) : OpR X (compareOp .Eq) (rEqD K) := by subst h; exact op_eqD hu
theorem neDK (hu : X.A.units + 64 < cLine) (h : X.K = K := by rfl) : OpR X (compareOp .NotEq) (rNeD K) := by subst h; exact op_neD hu
theorem inDK (hu : X.A.units + 65 < cLine) (h : X.K = K := by rfl) : OpR X (compareOp .In) (rInD K) := by subst h; exact op_inD hu
theorem ninDK (hu : X.A.units + 65 < cLine) (h : X.K = K := by rfl) : OpR X (compareOp .NotIn) (rNotInD K) := by subst h; exact op_notInD hu
theorem slL (h : X.K = K := by rfl) : SlR X (rSlL K) := by subst h; exact sl_list
theorem slT (h : X.K = K := by rfl) : SlR X (rSlT K) := by subst h; exact sl_tup
theorem fldK (he : PE X e ta) (hb : attributeBase e f X.env (eval e X.env) = eval e X.env) (h : X.K = K := by rfl) : PE X (.Attribute e f pos) (tFld K ta f) := by subst h; exact pe_fld he hb
theorem piL {tg : Expr} (he : PE X e ta) (h : X.K = K := by rfl) : PI X tg e (iList K ta) := by subst h; exact pi_list he
theorem piT {tg : Expr} (he : PE X e ta) (h : X.K = K := by rfl) : PI X tg e (iTup K ta) := by subst h; exact pi_tup he
/-- list(x) of a list or tuple -/
def rListOf : List V → Hp → VK → Prop := fun xs H Q => ∃ p ys, xs = [.ref p] ∧ (SqL K H p ys ∨ SqT K H p ys) ∧ ∀ l, H l = none → Q (.ref l) (upd H l (.lst ys))
theorem listOf (h : X.K = K := by rfl) : CallR X (.type "list") (rListOf K) := by subst h; exact call_list_of
theorem rd_rlen {H : Hp} {Q : VK} {p : Addr} {xs : List V} (h : SqL K H p xs) (q : Q (.int xs.length) H) : rLen K [.ref p] H Q := ⟨p, xs, rfl, .inl h, q⟩
theorem rd_rlenT {H : Hp} {Q : VK} {p : Addr} {xs : List V} (h : SqT K H p xs) (q : Q (.int xs.length) H) : rLen K [.ref p] H Q := ⟨p, xs, rfl, .inr h, q⟩
theorem rd_rlist {H : Hp} {Q : VK} {p : Addr} {xs : List V} (h : SqL K H p xs) (q : ∀ l, H l = none → Q (.ref l) (upd H l (.lst xs))) : rListOf K [.ref p] H Q := ⟨p, xs, rfl, .inl h, q⟩
theorem isiK (h : X.K = K := by rfl) : CallR X (.builtin "isinstance") (rIsi K) := by subst h; exact call_isi
end
end Pk
namespace Pk
open PySem
theorem bt_len : bootBuiltins "len" = some (.builtin "len") := by decide +kernel
theorem bt_max : bootBuiltins "max" = some (.builtin "max") := by decide +kernel
theorem bt_sorted : bootBuiltins "sorted" = some (.builtin "sorted") := by decide +kernel
theorem bt_isinstance : bootBuiltins "isinstance" = some (.builtin "isinstance") := by decide +kernel
theorem bt_list : bootBuiltins "list" = some (.type "list") := by decide +kernel
theorem bt_int : bootBuiltins "int" = some (.type "int") := by decide +kernel
theorem bt_str : bootBuiltins "str" = some (.type "str") := by decide +kernel
theorem bt_bool : bootBuiltins "bool" = some (.type "bool") := by decide +kernel
theorem bt_tuple : bootBuiltins "tuple" = some (.type "tuple") := by decide +kernel
theorem bt_dict : bootBuiltins "dict" = some (.type "dict") := by decide +kernel
theorem bt_ValueError : bootBuiltins "ValueError" = some (.type "ValueError") := by decide +kernel
end Pk
namespace Pk
open PySem PySem.Spec PyProof.Rows L2
/-! ### list comprehensions -/
/-- what a comprehension asks of the iterator that came -/
abbrev LcOf (g : TG) (tt : TT) (te : TE) (vs : List Nat) (σ : L2.St) (Q : VK) (J : It) (H1 : Hp) : Prop := ∀ D, H1 D = none → ∃ W : Nat → Nat → Hp → Prop, (∃ m, W 0 m (upd H1 D (.lst []))) ∧ ∀ i m H, W i m H →
  (J.stop i H ∧ Q (.ref D) H) ∨ (J.go i H ∧ ∃ Nx : Hp → Prop, (∀ H', Nx H' → ∃ m', m' < m ∧ W (i + 1) m' H') ∧ ∀ x H', J.yld i H x H' → g x (wipe σ vs) H' fun σ2 H2 => wipe σ2 vs = wipe σ vs ∧ tt σ2 H2 fun b H3 =>
    if b = true then te σ2 H3 fun y H4 => ∃ acc, H4 D = some (.lst acc) ∧ acc.length < sizeLine ∧ Nx (upd H4 D (.lst (acc ++ [y]))) else Nx H3)
section
variable {σ : L2.St} {H : Hp} {Q : VK} {K : PySem.W.Frag} {te : TE} {vs : List Nat}
theorem rd_lc {wi : TI} {g : TG} {tt : TT} (q : wi σ H (LcOf g tt te vs σ Q)) : tLc wi g tt te vs σ H Q := q
theorem rd_tyes {Q : Bool → Hp → Prop} (q : Q true H) : tYes σ H Q := q
theorem upd_ne_eq {H : Hp} {D a : Addr} {o : HO} (h : a ≠ D) : upd H D o a = H a := upd_ne h
/-- over a range, no test, an element that lays nothing -/
theorem lcR {lo : Int} {n k : Nat} (v : Nat → V) (hn : n ≤ 100000) (hw : ∀ x, wipe ((wipe σ vs).set k (some x)) vs = wipe σ vs)
    (el : ∀ i, i < n → ∀ (H' : Hp) (Q' : VK), Ex H H' → Q' (v i) H' → te ((wipe σ vs).set k (some (.int (lo + (i : Int))))) H' Q')
    (q : ∀ D, H D = none → Q (.ref D) (upd H D (.lst ((List.range n).map v)))) : LcOf (gName k) tYes te vs σ Q (Itr lo n) H := by
  intro D hD
  refine lc_range (lo := lo) (n := n) (fun i H' => H' = upd H D (.lst ((List.range i).map v))) rfl ?_ ?_
  · rintro i H' hi rfl
    refine ⟨hw _, rd_tyes (rd_T (el i hi _ _ (Ex.new hD) ⟨_, upd_same, ?_, ?_⟩))⟩
    · rw [List.length_map, List.length_range]
      exact line_lt (by omega)
    · rw [upd_upd, List.range_succ, List.map_append]
      rfl
  · rintro H' rfl
    exact q D hD
/-- over a range, no test, an element that may lay things -/
theorem lcRx {lo : Int} {n k : Nat} (P : V → Prop) (hn : n ≤ 100000) (hw : ∀ x, wipe ((wipe σ vs).set k (some x)) vs = wipe σ vs)
    (el : ∀ i, i < n → ∀ (H' : Hp) (Q' : VK), Ex H H' → (∀ v H2, Ex H' H2 → P v → Q' v H2) → te ((wipe σ vs).set k (some (.int (lo + (i : Int))))) H' Q')
    (q : ∀ D ws H', H D = none → Ex H H' → H' D = some (.lst ws) → ws.length = n → (∀ v ∈ ws, P v) → Q (.ref D) H') : LcOf (gName k) tYes te vs σ Q (Itr lo n) H := by
  intro D hD
  refine lc_range (lo := lo) (n := n) (fun i H' => Ex H H' ∧ ∃ ws, H' D = some (.lst ws) ∧ ws.length = i ∧ ∀ v ∈ ws, P v) ⟨Ex.new hD, [], upd_same, rfl, fun v hv => absurd hv List.not_mem_nil⟩ ?_ ?_
  · rintro i H' hi ⟨e, ws, hl, hlen, hp⟩
    refine ⟨hw _, rd_tyes (rd_T (el i hi _ _ e fun v H2 e2 pv => ?_))⟩
    refine ⟨ws, e2 _ _ hl, line_lt (by omega), (e.trans e2).mut hD, ws ++ [v], upd_same, by rw [List.length_append, hlen]; rfl, fun x hx => ?_⟩
    rcases List.mem_append.mp hx with hx | hx
    · exact hp x hx
    · rw [List.mem_singleton] at hx
      rw [hx]
      exact pv
  · rintro H' ⟨e, ws, hl, hlen, hp⟩
    exact q D ws H' hD e hl hlen hp
/-- over a list that stands, no test, an element that lays nothing -/
theorem lcL {a : Addr} {xs : List V} {k : Nat} (v : Nat → V) (hS : SqL K H a xs) (hn : xs.length ≤ 100000) (hw : ∀ x, wipe ((wipe σ vs).set k (some x)) vs = wipe σ vs)
    (el : ∀ i x, xs[i]? = some x → ∀ (H' : Hp) (Q' : VK), Ex H H' → Q' (v i) H' → te ((wipe σ vs).set k (some x)) H' Q')
    (q : ∀ D, H D = none → Q (.ref D) (upd H D (.lst ((List.range xs.length).map v)))) : LcOf (gName k) tYes te vs σ Q (Itl K a) H := by
  intro D hD
  refine lc_list (K := K) (a := a) (xs := xs) (fun i H' => H' = upd H D (.lst ((List.range i).map v))) rfl ?_ ?_ ?_
  · rintro i H' hi rfl
    exact (Ex.new hD).seqL hS
  · rintro i x H' hx rfl
    have hi : i < xs.length := (List.getElem?_eq_some_iff.mp hx).1
    refine ⟨hw _, rd_tyes (rd_T (el i x hx _ _ (Ex.new hD) ⟨_, upd_same, ?_, ?_⟩))⟩
    · rw [List.length_map, List.length_range]
      exact line_lt (by omega)
    · rw [upd_upd, List.range_succ, List.map_append]
      rfl
  · rintro H' rfl
    exact q D hD
end
end Pk
namespace Pk
open PySem PySem.Spec PyProof.Rows L2
/-! ### dicts -/
section
variable {σ : L2.St} {H : Hp} {Q : VK} {D : Ends} {td ty tv tx te : TE} {a b : Addr} {v : V} {k : Key} {ks : List Key} {kvs : List (Key × V)} {kvt : List (List Key × V)}
theorem rd_dput (q : tv σ H fun v H1 => td σ H1 fun x H2 => ty σ H2 fun y H3 => ∃ a H4, x = .ref a ∧ DPut H3 a y v H4 ∧ D.nx σ H4) : sDPut td ty tv D σ H := q
theorem rd_dget (q : td σ H fun x H1 => ty σ H1 fun y H2 => ∃ a v, x = .ref a ∧ DGet H2 a y (some v) ∧ Q v H2) : tDGet td ty σ H Q := q
theorem rd_dget2 (q : td σ H fun x H1 => ∃ a, x = .ref a ∧ IsD H1 a ∧ ty σ H1 fun y H2 => tx σ H2 fun z H3 => ∃ o, DGet H3 a y o ∧ Q (o.getD z) H3) : tDGet2 td ty tx σ H Q := q
theorem rd_din (q : ty σ H fun y H1 => td σ H1 fun x H2 => ∃ a o, x = .ref a ∧ DGet H2 a y o ∧ Q (.bl o.isSome) H2) : tDIn ty td σ H Q := q
theorem rd_dnotin (q : ty σ H fun y H1 => td σ H1 fun x H2 => ∃ a o, x = .ref a ∧ DGet H2 a y o ∧ Q (.bl (!o.isSome)) H2) : tDNotIn ty td σ H Q := q
theorem rd_dnewK (q : ∀ p, H p = none → Q (.ref p) (upd H p (.dK []))) : tDNewK σ H Q := q
theorem rd_dnewT (q : ∀ p, H p = none → Q (.ref p) (upd H p (.dT []))) : tDNewT σ H Q := q
theorem dgetT {ks : List Key} (e : H a = some (.dT kvt)) (eb : H b = some (.tup (ks.map kV))) (h : valV kvt ks = some v) : DGet H a (.ref b) (some v) := by
  rw [← h]
  exact DGet.t e eb
theorem dgetK (e : H a = some (.dK kvs)) (h : valV kvs k = some v) : DGet H a (kV k) (some v) := by
  rw [← h]
  exact DGet.k e
theorem rd_opt1 {B : Addr → V → Prop} (q : B a v) : ∃ p x, V.ref a = V.ref p ∧ B p x := ⟨a, v, rfl, q⟩
end
end Pk
namespace Pk
/-! ### the longest common row of two lists, and the greedy pairs -/
section
variable {α : Type} [DecidableEq α]
def lcs : List α → List α → Nat
  | [], _ => 0
  | _ :: _, [] => 0
  | a :: as, b :: bs => max (max (lcs as (b :: bs)) (lcs (a :: as) bs)) (if a = b then 1 + lcs as bs else 0)
termination_by xs ys => xs.length + ys.length
def Lc (xs ys : List α) (i j : Nat) : Nat := lcs (xs.drop i) (ys.drop j)
theorem lcs_nil_left (ys : List α) : lcs [] ys = 0 := by unfold lcs; rfl
theorem lcs_nil_right (xs : List α) : lcs xs [] = 0 := by
  cases xs with
  | nil => unfold lcs; rfl
  | cons a as => unfold lcs; rfl
theorem lcs_cons (a b : α) (as bs : List α) : lcs (a :: as) (b :: bs) = max (max (lcs as (b :: bs)) (lcs (a :: as) bs)) (if a = b then 1 + lcs as bs else 0) := by
  rw [lcs]
theorem lcs_ge : ∀ (as bs s : List α), s.Sublist as → s.Sublist bs → s.length ≤ lcs as bs
  | [], bs, s, h1, h2 => by
    have e : s = [] := List.sublist_nil.mp h1
    subst e
    exact Nat.zero_le _
  | a :: as, [], s, h1, h2 => by
    have e : s = [] := List.sublist_nil.mp h2
    subst e
    exact Nat.zero_le _
  | a :: as, b :: bs, [], h1, h2 => Nat.zero_le _
  | a :: as, b :: bs, x :: s, h1, h2 => by
    rw [lcs_cons]
    by_cases ha : (x :: s).Sublist as
    · have z := lcs_ge as (b :: bs) (x :: s) ha h2
      omega
    · by_cases hb : (x :: s).Sublist bs
      · have z := lcs_ge (a :: as) bs (x :: s) h1 hb
        omega
      · have e1 : x = a ∧ s.Sublist as := by
          cases h1 with
          | cons _ h => exact absurd h ha
          | cons_cons _ h => exact ⟨rfl, h⟩
        have e2 : x = b ∧ s.Sublist bs := by
          cases h2 with
          | cons _ h => exact absurd h hb
          | cons_cons _ h => exact ⟨rfl, h⟩
        have z := lcs_ge as bs s e1.2 e2.2
        have e : a = b := e1.1.symm.trans e2.1
        rw [if_pos e, List.length_cons]
        omega
termination_by as bs => as.length + bs.length
theorem lcs_ex : ∀ (as bs : List α), ∃ s : List α, s.Sublist as ∧ s.Sublist bs ∧ s.length = lcs as bs
  | [], bs => ⟨[], List.Sublist.refl _, List.nil_sublist _, by rw [lcs_nil_left]; rfl⟩
  | a :: as, [] => ⟨[], List.nil_sublist _, List.Sublist.refl _, by rw [lcs_nil_right]; rfl⟩
  | a :: as, b :: bs => by
    obtain ⟨s1, p1, q1, e1⟩ := lcs_ex as (b :: bs)
    obtain ⟨s2, p2, q2, e2⟩ := lcs_ex (a :: as) bs
    obtain ⟨s3, p3, q3, e3⟩ := lcs_ex as bs
    rw [lcs_cons]
    by_cases e : a = b
    · rw [if_pos e]
      by_cases c1 : max (lcs as (b :: bs)) (lcs (a :: as) bs) ≤ 1 + lcs as bs
      · refine ⟨a :: s3, List.Sublist.cons_cons a p3, ?_, ?_⟩
        · rw [e]; exact List.Sublist.cons_cons b q3
        · rw [List.length_cons, e3]; omega
      · by_cases c2 : lcs as (b :: bs) ≤ lcs (a :: as) bs
        · exact ⟨s2, p2, q2.cons b, by omega⟩
        · exact ⟨s1, p1.cons a, q1, by omega⟩
    · rw [if_neg e]
      by_cases c2 : lcs as (b :: bs) ≤ lcs (a :: as) bs
      · exact ⟨s2, p2, q2.cons b, by omega⟩
      · exact ⟨s1, p1.cons a, q1, by omega⟩
termination_by as bs => as.length + bs.length
theorem lcs_reverse (as bs : List α) : lcs as.reverse bs.reverse = lcs as bs := by
  apply Nat.le_antisymm
  · obtain ⟨s, h1, h2, e⟩ := lcs_ex as.reverse bs.reverse
    have z := lcs_ge as bs s.reverse (by simpa using h1.reverse) (by simpa using h2.reverse)
    rw [List.length_reverse] at z
    omega
  · obtain ⟨s, h1, h2, e⟩ := lcs_ex as bs
    have z := lcs_ge as.reverse bs.reverse s.reverse h1.reverse h2.reverse
    rw [List.length_reverse] at z
    omega
variable {xs ys : List α}
theorem Lc_left {i j : Nat} (h : xs.length ≤ i) : Lc xs ys i j = 0 := by
  unfold Lc
  rw [List.drop_eq_nil_of_le h, lcs_nil_left]
theorem Lc_right {i j : Nat} (h : ys.length ≤ j) : Lc xs ys i j = 0 := by
  unfold Lc
  rw [List.drop_eq_nil_of_le h, lcs_nil_right]
theorem Lc_step {i j : Nat} (hi : i < xs.length) (hj : j < ys.length) :
    Lc xs ys i j = max (max (Lc xs ys (i + 1) j) (Lc xs ys i (j + 1))) (if xs[i] = ys[j] then 1 + Lc xs ys (i + 1) (j + 1) else 0) := by
  unfold Lc
  rw [List.drop_eq_getElem_cons hi, List.drop_eq_getElem_cons hj, lcs_cons]
theorem Lc_mono {i j k l : Nat} (h1 : i ≤ k) (h2 : j ≤ l) : Lc xs ys k l ≤ Lc xs ys i j := by
  unfold Lc
  obtain ⟨s, p, q, e⟩ := lcs_ex (xs.drop k) (ys.drop l)
  have d1 : (xs.drop k).Sublist (xs.drop i) := by
    obtain ⟨m, rfl⟩ := Nat.exists_eq_add_of_le h1
    rw [← List.drop_drop]
    exact List.drop_sublist _ _
  have d2 : (ys.drop l).Sublist (ys.drop j) := by
    obtain ⟨m, rfl⟩ := Nat.exists_eq_add_of_le h2
    rw [← List.drop_drop]
    exact List.drop_sublist _ _
  have z := lcs_ge _ _ s (p.trans d1) (q.trans d2)
  omega
/-- (i, j) begins as many pairs from (l, r) on as can be -/
def Hit (xs ys : List α) (l r i j : Nat) : Prop := l ≤ i ∧ r ≤ j ∧ i < xs.length ∧ j < ys.length ∧ xs[i]? = ys[j]? ∧ 1 + Lc xs ys (i + 1) (j + 1) = Lc xs ys l r
/-- the first of these, or none -/
def IsNext (xs ys : List α) (l r : Nat) : Option (Nat × Nat) → Prop
  | none => ∀ i j, ¬ Hit xs ys l r i j
  | some p => Hit xs ys l r p.1 p.2 ∧ ∀ i j, Hit xs ys l r i j → p.1 < i ∨ (p.1 = i ∧ p.2 ≤ j)
theorem Hit_ex : ∀ (n l r : Nat), xs.length - l + (ys.length - r) = n → 0 < Lc xs ys l r → ∃ i j, Hit xs ys l r i j := by
  intro n
  induction n with
  | zero =>
    intro l r e h
    rw [Lc_left (by omega)] at h
    omega
  | succ n ih =>
    intro l r e h
    by_cases hl : xs.length ≤ l
    · rw [Lc_left hl] at h
      omega
    · by_cases hr : ys.length ≤ r
      · rw [Lc_right hr] at h
        omega
      · have hl' : l < xs.length := by omega
        have hr' : r < ys.length := by omega
        have st := Lc_step (xs := xs) (ys := ys) hl' hr'
        by_cases c1 : Lc xs ys l r = Lc xs ys (l + 1) r
        · obtain ⟨i, j, h1, h2, h3, h4, h5, h6⟩ := ih (l + 1) r (by omega) (by omega)
          exact ⟨i, j, by omega, h2, h3, h4, h5, by omega⟩
        · by_cases c2 : Lc xs ys l r = Lc xs ys l (r + 1)
          · obtain ⟨i, j, h1, h2, h3, h4, h5, h6⟩ := ih l (r + 1) (by omega) (by omega)
            exact ⟨i, j, h1, by omega, h3, h4, h5, by omega⟩
          · by_cases q : xs[l] = ys[r]
            · rw [if_pos q] at st
              refine ⟨l, r, Nat.le_refl _, Nat.le_refl _, hl', hr', ?_, by omega⟩
              rw [List.getElem?_eq_getElem hl', List.getElem?_eq_getElem hr', q]
            · rw [if_neg q] at st
              omega
theorem IsNext.none_zero {l r : Nat} (h : IsNext xs ys l r none) : Lc xs ys l r = 0 := by
  rcases Nat.eq_zero_or_pos (Lc xs ys l r) with e | e
  · exact e
  · obtain ⟨i, j, q⟩ := Hit_ex _ l r rfl e
    exact absurd q (h i j)
theorem IsNext.some_eq {l r i j : Nat} (h : IsNext xs ys l r (some (i, j))) : 1 + Lc xs ys (i + 1) (j + 1) = Lc xs ys l r := h.1.2.2.2.2.2
theorem IsNext.unique {l r : Nat} {o o' : Option (Nat × Nat)} (h : IsNext xs ys l r o) (h' : IsNext xs ys l r o') : o = o' := by
  cases o with
  | none =>
    cases o' with
    | none => rfl
    | some p => exact absurd h'.1 (h p.1 p.2)
  | some p =>
    cases o' with
    | none => exact absurd h.1 (h' p.1 p.2)
    | some q =>
      obtain ⟨p1, p2⟩ := p
      obtain ⟨q1, q2⟩ := q
      have a := h.2 _ _ h'.1
      have b := h'.2 _ _ h.1
      simp only at a b
      have e1 : p1 = q1 := by omega
      have e2 : p2 = q2 := by omega
      rw [e1, e2]
/-- the greedy pairs from (l, r) on -/
inductive Kept (xs ys : List α) : Nat → Nat → List (Nat × Nat) → Prop
  | nil {l r : Nat} : IsNext xs ys l r none → Kept xs ys l r []
  | cons {l r i j : Nat} {t : List (Nat × Nat)} : IsNext xs ys l r (some (i, j)) → Kept xs ys (i + 1) (j + 1) t → Kept xs ys l r ((i, j) :: t)
theorem Kept.length {l r : Nat} {f : List (Nat × Nat)} (h : Kept xs ys l r f) : f.length = Lc xs ys l r := by
  induction h with
  | nil h => rw [h.none_zero]; rfl
  | cons h _ ih => rw [List.length_cons, ih]; have := h.some_eq; omega
theorem Kept.unique {l r : Nat} {f g : List (Nat × Nat)} (h : Kept xs ys l r f) (h' : Kept xs ys l r g) : f = g := by
  induction h generalizing g with
  | nil h =>
    cases h' with
    | nil _ => rfl
    | cons q _ => exact nomatch h.unique q
  | cons h _ ih =>
    cases h' with
    | nil q => exact nomatch h.unique q
    | cons q s =>
      have e := h.unique q
      cases e
      rw [ih s]
/-- from the k-th pair on -/
theorem Kept.drop {l r : Nat} {f : List (Nat × Nat)} (h : Kept xs ys l r f) : ∀ {k : Nat} {p : Nat × Nat}, f[k]? = some p →
    ∃ l' r', IsNext xs ys l' r' (some p) ∧ Lc xs ys l' r' = f.length - k ∧ l ≤ l' ∧ r ≤ r' ∧ (k = 0 → l' = l ∧ r' = r) ∧ (∀ q, 0 < k → f[k - 1]? = some q → l' = q.1 + 1 ∧ r' = q.2 + 1) := by
  induction h with
  | nil h => intro k p e; simp at e
  | cons h s ih =>
    rename_i l r i j t
    intro k p e
    cases k with
    | zero =>
      simp only [List.getElem?_cons_zero, Option.some.injEq] at e
      subst e
      refine ⟨l, r, h, ?_, Nat.le_refl _, Nat.le_refl _, fun _ => ⟨rfl, rfl⟩, fun q hq => absurd hq (by omega)⟩
      rw [List.length_cons, s.length]
      have := h.some_eq
      omega
    | succ k =>
      rw [List.getElem?_cons_succ] at e
      obtain ⟨l', r', h1, h2, h3, h4, h5, h6⟩ := ih e
      have hh := h.1
      obtain ⟨a1, a2, _⟩ := hh
      simp only at a1 a2
      refine ⟨l', r', h1, by rw [List.length_cons]; omega, by omega, by omega, fun z => absurd z (by omega), fun q _ hq => ?_⟩
      cases k with
      | zero =>
        simp only [Nat.zero_add, Nat.sub_self, List.getElem?_cons_zero, Option.some.injEq] at hq
        subst hq
        exact h5 rfl
      | succ k =>
        have z : k + 1 + 1 - 1 = (k + 1 - 1) + 1 := by omega
        rw [z, List.getElem?_cons_succ] at hq
        exact h6 q (by omega) hq
end
end Pk
namespace Pk
section
variable {α : Type} [DecidableEq α] (xs ys : List α)
/-- the longest common row of the first t and the first k -/
def Pre (t k : Nat) : Nat := lcs (xs.take t).reverse (ys.take k).reverse
theorem Pre_zero_left (k : Nat) : Pre xs ys 0 k = 0 := by
  unfold Pre
  rw [List.take_zero, List.reverse_nil, lcs_nil_left]
theorem Pre_zero_right (t : Nat) : Pre xs ys t 0 = 0 := by
  unfold Pre
  rw [List.take_zero, List.reverse_nil, lcs_nil_right]
theorem take_succ_rev {α : Type} {l : List α} {t : Nat} (h : t < l.length) : (l.take (t + 1)).reverse = l[t] :: (l.take t).reverse := by
  rw [List.take_succ_eq_append_getElem h, List.reverse_append]
  rfl
theorem Pre_step {t k : Nat} (ht : t < xs.length) (hk : k < ys.length) :
    Pre xs ys (t + 1) (k + 1) = max (max (Pre xs ys t (k + 1)) (Pre xs ys (t + 1) k)) (if xs[t] = ys[k] then 1 + Pre xs ys t k else 0) := by
  unfold Pre
  rw [take_succ_rev ht, take_succ_rev hk, lcs_cons]
theorem Pre_end : Pre xs ys xs.length ys.length = Lc xs ys 0 0 := by
  unfold Pre Lc
  rw [List.take_length, List.take_length, lcs_reverse, List.drop_zero, List.drop_zero]
end
end Pk
namespace Pk
open PySem PySem.Spec PyProof.Rows L2
/-- a list of lists of ints: n + 1 rows of m + 1, f i j at (i, j) -/
structure Tab (H : Hp) (r : Addr) (rs : List Addr) (n m : Nat) (f : Nat → Nat → Nat) : Prop where
  top : H r = some (.lst (rs.map V.ref))
  len : rs.length = n + 1
  nd : rs.Nodup
  row : ∀ i, (h : i < rs.length) → H rs[i] = some (.lst ((List.range (m + 1)).map fun j => V.int (f i j : Nat)))
theorem Tab.ex {H H1 : Hp} {r : Addr} {rs : List Addr} {n m : Nat} {f : Nat → Nat → Nat} (t : Tab H r rs n m f) (e : Ex H H1) : Tab H1 r rs n m f :=
  ⟨e _ _ t.top, t.len, t.nd, fun i h => e _ _ (t.row i h)⟩
/-- the row at i, its item at j -/
theorem Tab.get1 {H : Hp} {r : Addr} {rs : List Addr} {n m : Nat} {f : Nat → Nat → Nat} (t : Tab H r rs n m f) {i : Nat} (hi : i ≤ n) :
    ∃ a, atI (rs.map V.ref) (i : Int) = some (.ref a) ∧ rs[i]? = some a ∧ H a = some (.lst ((List.range (m + 1)).map fun j => V.int (f i j : Nat))) := by
  have h : i < rs.length := by rw [t.len]; omega
  exact ⟨rs[i], at_mapN h, List.getElem?_eq_getElem h, t.row i h⟩
theorem Tab.get2 {m i j : Nat} {f : Nat → Nat → Nat} (hj : j ≤ m) : atI ((List.range (m + 1)).map fun j => V.int (f i j : Nat)) (j : Int) = some (.int (f i j : Nat)) := by
  have h : j < (List.range (m + 1)).length := by rw [List.length_range]; omega
  have z := at_mapN (f := fun j => V.int (f i j : Nat)) h
  rw [List.getElem_range] at z
  exact z
theorem Tab.put {H : Hp} {r : Addr} {rs : List Addr} {n m : Nat} {f : Nat → Nat → Nat} (t : Tab H r rs n m f) {i j v : Nat} {a : Addr} (ha : rs[i]? = some a) :
    Tab (upd H a (.lst (((List.range (m + 1)).map fun j => V.int (f i j : Nat)).set j (.int (v : Nat))))) r rs n m (fun i' j' => if i' = i ∧ j' = j then v else f i' j') := by
  have hi : i < rs.length := (List.getElem?_eq_some_iff.mp ha).1
  have ea : rs[i] = a := (List.getElem?_eq_some_iff.mp ha).2
  have hra : r ≠ a := by
    have q := t.row i hi
    rw [ea] at q
    refine ne_of t.top q fun z => ?_
    have z1 := HO.lst.inj z
    have z2 : rs.map V.ref ≠ [] := by
      intro w
      rw [List.map_eq_nil_iff] at w
      rw [w] at hi
      exact absurd hi (by simp)
    cases rs with
    | nil => exact z2 rfl
    | cons b bs =>
      rw [List.map_cons, List.range_succ_eq_map, List.map_cons] at z1
      cases (List.cons.inj z1).1
  refine ⟨by rw [upd_ne hra]; exact t.top, t.len, t.nd, fun k hk => ?_⟩
  by_cases c : k = i
  · subst c
    rw [ea, upd_same]
    congr 2
    apply List.ext_getElem
    · simp
    · intro l h1 h2
      rw [List.getElem_set]
      simp only [List.getElem_map, List.getElem_range, true_and]
      by_cases d : j = l
      · subst d
        simp
      · rw [if_neg d, if_neg (fun w => d w.symm)]
  · have hne : rs[k] ≠ a := by
      rw [← ea]
      intro w
      exact c ((List.getElem_inj t.nd).mp w)
    rw [upd_ne hne]
    have q := t.row k hk
    rw [q]
    congr 2
    apply List.map_congr_left
    intro l _
    rw [if_neg (fun w => c w.1)]
end Pk
namespace Pk
open PySem PySem.Spec PyProof.Rows L2
/-- a row of pairs of numbers, each a tuple -/
structure Prs (H : Hp) (ts : List Addr) (fs : List (Nat × Nat)) : Prop where
  len : ts.length = fs.length
  at_ : ∀ (k i j : Nat), fs[k]? = some (i, j) → ∃ t, ts[k]? = some t ∧ H t = some (.tup [.int (i : Int), .int (j : Int)])
theorem Prs.nil {H : Hp} : Prs H [] [] := ⟨rfl, fun k i j h => by simp at h⟩
theorem Prs.ex {H H1 : Hp} {ts : List Addr} {fs : List (Nat × Nat)} (p : Prs H ts fs) (e : Ex H H1) : Prs H1 ts fs :=
  ⟨p.len, fun k i j h => let ⟨t, a, b⟩ := p.at_ k i j h; ⟨t, a, e _ _ b⟩⟩
/-- where one object that is no tuple changes -/
theorem Prs.upd {H : Hp} {ts : List Addr} {fs : List (Nat × Nat)} {q : Addr} {xs : List V} {o : HO} (p : Prs H ts fs) (h : H q = some (.lst xs)) : Prs (upd H q o) ts fs :=
  ⟨p.len, fun k i j g => by
    obtain ⟨t, a, b⟩ := p.at_ k i j g
    exact ⟨t, a, by rw [upd_ne (ne_of b h (by intro z; cases z))]; exact b⟩⟩
theorem Prs.snoc {H : Hp} {ts : List Addr} {fs : List (Nat × Nat)} {t : Addr} {i j : Nat} (p : Prs H ts fs) (h : H t = some (.tup [.int (i : Int), .int (j : Int)])) : Prs H (ts ++ [t]) (fs ++ [(i, j)]) := by
  refine ⟨by rw [List.length_append, List.length_append, p.len]; rfl, fun k a b g => ?_⟩
  by_cases c : k < fs.length
  · rw [List.getElem?_append_left c] at g
    obtain ⟨t', a', b'⟩ := p.at_ k a b g
    exact ⟨t', by rw [List.getElem?_append_left (by rw [p.len]; exact c)]; exact a', b'⟩
  · have hk : k < (fs ++ [(i, j)]).length := (List.getElem?_eq_some_iff.mp g).1
    have ek : k = fs.length := by
      rw [List.length_append] at hk
      simp at hk
      omega
    subst ek
    rw [List.getElem?_append_right (Nat.le_refl _)] at g
    simp only [Nat.sub_self, List.getElem?_cons_zero, Option.some.injEq, Prod.mk.injEq] at g
    refine ⟨t, ?_, ?_⟩
    · rw [List.getElem?_append_right (by rw [p.len]; exact Nat.le_refl _), p.len]
      simp
    · rw [← g.1, ← g.2]
      exact h
/-- None or a pair -/
def PairV (H : Hp) : V → Option (Nat × Nat) → Prop
  | v, none => v = .non
  | v, some p => ∃ t, v = .ref t ∧ H t = some (.tup [.int (p.1 : Int), .int (p.2 : Int)])
theorem PairV.ex {H H1 : Hp} {v : V} {o : Option (Nat × Nat)} (p : PairV H v o) (e : Ex H H1) : PairV H1 v o := by
  cases o with
  | none => exact p
  | some q =>
    obtain ⟨t, a, b⟩ := p
    exact ⟨t, a, e _ _ b⟩
end Pk
namespace Pk
open PySem PySem.Spec PyProof.Rows L2
/-- a text that may be compared -/
def TOk (s : Str) : Prop := PySem.PyData.canLay0 (.str s) = true
theorem tok_of {s : Str} (h : ∀ c ∈ s.cps.toList, c < 0x110000) : TOk s := by
  unfold TOk
  rw [PyData.canLay0]
  show s.cps.all (fun x => decide (x < 0x110000)) = true
  rw [← Array.all_toList]
  exact List.all_eq_true.mpr fun c hc => decide_eq_true (h c hc)
theorem joinL_nil : ∀ ps : List (List Nat), TL.joinL [] ps = ps.flatten
  | [] => rfl
  | [p] => by simp [TL.joinL]
  | p :: q :: r => by
    show p ++ ([] ++ TL.joinL [] (q :: r)) = _
    rw [joinL_nil (q :: r)]
    simp
/-- single signs, joined -/
theorem join_signs (cs : List Nat) : (Txt.join "" (cs.map fun c => (⟨#[c]⟩ : Str))).cps.toList = cs := by
  rw [TL.join_eq]
  have z := TL.tl_join "" (cs.map fun c => (⟨#[c]⟩ : Str))
  have e : TL.tl "" = [] := rfl
  rw [e, joinL_nil, List.map_map] at z
  have z2 : (Str.join "" (cs.map fun c => (⟨#[c]⟩ : Str))).cps.toList = (cs.map (TL.tl ∘ fun c => (⟨#[c]⟩ : Str))).flatten := z
  rw [z2]
  induction cs with
  | nil => rfl
  | cons c r ih =>
    rw [List.map_cons, List.flatten_cons]
    have y : (TL.tl ∘ fun c => (⟨#[c]⟩ : Str)) c = [c] := rfl
    rw [y, ih]
    · rfl
    · exact (TL.tl_join "" _).trans (by rw [e, joinL_nil, List.map_map])
    · exact (TL.tl_join "" _).trans (by rw [e, joinL_nil, List.map_map])
theorem join_signs_len (cs : List Nat) : (Txt.join "" (cs.map fun c => (⟨#[c]⟩ : Str))).length = cs.length := by
  rw [TL.len_tl]
  exact congrArg List.length (join_signs cs)
/-- one sign of a text that is read -/
theorem rd_ixS {z : Str} {i : Int} {c : Nat} {H : Hp} {Q : VK} (hz : z.length ≤ sizeLine) (h : atI z.cps.toList i = some c) (q : Q (.str ⟨#[c]⟩) H) : rIxS (.str z) (.int i) H Q := ⟨z, i, c, rfl, rfl, hz, h, q⟩
theorem rd_m1 {σ : L2.St} {H : Hp} {Q : VK} {to te : TE} {r : V → List V → Hp → VK → Prop} (q : to σ H fun x H1 => (∃ a, x = .str a) ∧ te σ H1 fun y H2 => r x [y] H2 Q) : tM1 r to te σ H Q := q
theorem rd_isS {z : Str} {B : Prop} (q : B) : (∃ a, V.str z = V.str a) ∧ B := ⟨⟨z, rfl⟩, q⟩
theorem joinK (K : PySem.W.Frag) {X : Cx} {o e : Expr} {to te : TE} {apos pos : Pos} (ho : PE X o to) (he : PE X e te) (h : X.K = K := by rfl) (hs : starEach [e] X.env = [(false, eval e X.env)] := by rfl)
    (hbase : attributeBase o "join" X.env (eval o X.env) = eval o X.env := by rfl) (hline : (apos.endLine == pos.line) = true := by rfl) :
    PE X (.Call (.Attribute o "join" apos) [e] [] pos) (tM1 (fun x xs H Q => ∃ a p, ∃ ys : List Str, x = .str a ∧ xs = [.ref p] ∧ (SqL K H p (ys.map V.str) ∨ SqT K H p (ys.map V.str)) ∧
      (ys.map (·.length)).sum + ys.length * a.length ≤ 16777216 ∧ Q (.str (Txt.join a ys)) H) to te) := by
  subst h
  exact pe_join ho he hs hbase hline
/-- the signs of a drawn text -/
def signs : Str := Str.ofString " !#$&()*+,-./0123456789:;<=>?@ABCDEFGHIJKLMNOPQRSTUVWXYZ[]^_abcdefghijklmnopqrstuvwxyz{|}~"
theorem signs_len : signs.length = 90 := by decide +kernel
theorem signs_low : signs.cps.toList.all (fun c => decide (c < 128)) = true := by decide +kernel
theorem signs_at {i : Int} (h0 : 0 ≤ i) (h : i < 90) : ∃ c, atI signs.cps.toList i = some c ∧ c < 128 := by
  have hl : i.toNat < signs.cps.toList.length := by
    have := signs_len
    rw [TL.len_tl] at this
    have e : signs.cps.toList.length = 90 := this
    rw [e]
    omega
  refine ⟨_, at_int h0 (List.getElem?_eq_getElem hl), ?_⟩
  exact of_decide_eq_true (List.all_eq_true.mp signs_low _ (List.getElem_mem hl))
theorem rd_div {i j : Int} {g : Int → Int → V} {H : Hp} {Q : VK} (h : 0 < j ∧ j < 1073741824) (q : Q (g i j) H) : rI CDiv g (.int i) (.int j) H Q := rd_I (C := CDiv) h q
theorem rd_mod {i j : Int} {g : Int → Int → V} {H : Hp} {Q : VK} (h : 0 < j) (q : Q (g i j) H) : rI (fun _ j => 0 < j) g (.int i) (.int j) H Q := rd_I (C := fun _ j => 0 < j) h q
theorem rd_mul {i j : Int} {g : Int → Int → V} {H : Hp} {Q : VK} (h : (-(2 ^ 64) < i ∧ i < 2 ^ 64) ∨ (-(2 ^ 64) < j ∧ j < 2 ^ 64)) (q : Q (g i j) H) : rI CMul g (.int i) (.int j) H Q := rd_I (C := CMul) h q
end Pk
namespace Pk
open PySem PySem.Spec PyProof.Rows L2
/-- the key (i, j) -/
def kk (i j : Nat) : List Key := [Sum.inl (i : Int), Sum.inl (j : Int)]
theorem kk_tup (i j : Nat) : (kk i j).map kV = [V.int (i : Int), V.int (j : Int)] := rfl
theorem kk_inj {i j k l : Nat} (h : kk i j = kk k l) : i = k ∧ j = l := by
  unfold kk at h
  injection h with h1 h2
  injection h2 with h2 _
  have a := Sum.inl.inj h1
  have b := Sum.inl.inj h2
  exact ⟨by omega, by omega⟩
/-- a dict with pairs of numbers as keys: f i j at the pairs that are done -/
structure Grid (kvs : List (List Key × V)) (d : Nat → Nat → Prop) (f : Nat → Nat → Nat) : Prop where
  yes : ∀ i j, d i j → valV kvs (kk i j) = some (.int (f i j : Nat))
  no : ∀ i j, ¬ d i j → valV kvs (kk i j) = none
theorem Grid.nil {f : Nat → Nat → Nat} : Grid [] (fun _ _ => False) f := ⟨fun _ _ h => h.elim, fun _ _ _ => valV_nil⟩
theorem Grid.put {kvs : List (List Key × V)} {d : Nat → Nat → Prop} {f : Nat → Nat → Nat} (g : Grid kvs d f) (i j v : Nat) :
    Grid (putK kvs (kk i j) (.int (v : Nat))) (fun i' j' => (i' = i ∧ j' = j) ∨ d i' j') (fun i' j' => if i' = i ∧ j' = j then v else f i' j') := by
  refine ⟨fun i' j' h => ?_, fun i' j' h => ?_⟩
  · rw [valV_put]
    by_cases c : i' = i ∧ j' = j
    · rw [if_pos (by rw [c.1, c.2]), if_pos c]
    · rw [if_neg (fun z => c (kk_inj z)), if_neg c]
      exact g.yes i' j' (h.resolve_left c)
  · rw [valV_put, if_neg (fun z => h (.inl (kk_inj z)))]
    exact g.no i' j' fun z => h (.inr z)
theorem Grid.same {kvs : List (List Key × V)} {d d' : Nat → Nat → Prop} {f f' : Nat → Nat → Nat} (g : Grid kvs d f) (h : ∀ i j, d i j ↔ d' i j) (e : ∀ i j, d' i j → f i j = f' i j) : Grid kvs d' f' :=
  ⟨fun i j q => by rw [← e i j q]; exact g.yes i j ((h i j).mpr q), fun i j q => g.no i j fun z => q ((h i j).mp z)⟩
theorem Grid.get0 {kvs : List (List Key × V)} {d : Nat → Nat → Prop} {f : Nat → Nat → Nat} (g : Grid kvs d f) {i j v : Nat} (h1 : d i j → f i j = v) (h2 : ¬ d i j → v = 0) : (valV kvs (kk i j)).getD (.int 0) = .int (v : Nat) := by
  by_cases c : d i j
  · rw [g.yes i j c, h1 c]
    rfl
  · rw [g.no i j c, h2 c]
    rfl
end Pk
namespace Pk
open PySem PySem.Spec PyProof.Rows L2
section
variable {σ : L2.St} {H : Hp} {Q : VK} {K : PySem.W.Frag} {te : TE} {tl th : TO} {a b : Addr} {x y : V} {xs zs : List V} {lo hi : Option Int}
theorem rd_sl {r : V → Option Int → Option Int → Hp → VK → Prop} (q : te σ H fun x H1 => tl σ H1 fun lo H2 => th σ H2 fun hi H3 => r x lo hi H3 Q) : tSl r te tl th σ H Q := q
theorem rd_part {Q : Option Int → Hp → Prop} (q : te σ H fun x H1 => ∃ i, x = .int i ∧ Q (some i) H1) : tPart te σ H Q := q
theorem rd_nopart {Q : Option Int → Hp → Prop} (q : Q none H) : tNoPart σ H Q := q
theorem rd_slL (h : SqL K H a xs) (q : ∀ p, H p = none → Q (.ref p) (upd H p (.lst (cutV xs lo hi)))) : rSlL K (.ref a) lo hi H Q := ⟨a, xs, rfl, h, q⟩
theorem rd_cat (h1 : H a = some (.lst xs)) (h2 : H b = some (.lst zs)) (h : xs.length + zs.length ≤ sizeLine) (q : ∀ p, H p = none → Q (.ref p) (upd H p (.lst (xs ++ zs)))) : rCat (.ref a) (.ref b) H Q :=
  ⟨a, b, xs, zs, rfl, rfl, h1, h2, h, q⟩
theorem cut_to {α : Type} (f : α → V) (xs : List α) (k : Nat) : cutV (xs.map f) none (some (k : Int)) = (xs.take k).map f := by
  unfold cutV
  rw [HT.sIx_none, HT.sIx_nat, List.drop_zero, Nat.sub_zero, List.length_map, List.map_take]
  by_cases h : k ≤ xs.length
  · rw [Nat.min_eq_left h]
  · rw [Nat.min_eq_right (by omega), List.take_of_length_le (by rw [List.length_map]; omega), List.take_of_length_le (by rw [List.length_map]; omega)]
theorem cut_from {α : Type} (f : α → V) (xs : List α) (k : Nat) : cutV (xs.map f) (some (k : Int)) none = (xs.drop k).map f := by
  unfold cutV
  rw [HT.sIx_none, HT.sIx_nat, List.length_map, List.map_drop]
  by_cases h : k ≤ xs.length
  · rw [Nat.min_eq_left h, List.take_of_length_le]
    rw [List.length_drop, List.length_map]
    omega
  · rw [Nat.min_eq_right (by omega), List.drop_eq_nil_of_le (by rw [List.length_map]; omega), List.drop_eq_nil_of_le (by rw [List.length_map]; omega), List.take_nil]
theorem dp_strs : ∀ xs : List Str, DpAll K H (xs.map V.str) (xs.map PyData.str)
  | [] => .nil
  | x :: xs => .cons (.str x) (dp_strs xs)
theorem lay_strs : ∀ xs : List Str, (∀ t ∈ xs, TOk t) → PyData.canLayAll0 (xs.map PyData.str) = true
  | [], _ => by simp [PyData.canLayAll0]
  | x :: xs, h => by
    have h1 : PyData.canLay0 (.str x) = true := h x List.mem_cons_self
    have h2 := lay_strs xs fun t m => h t (List.mem_cons_of_mem _ m)
    rw [List.map_cons, PyData.canLayAll0, h1, h2]
    rfl
theorem depth_strs : ∀ xs : List Str, PyData.depthAll (xs.map PyData.str) ≤ 1
  | [] => by simp [PyData.depthAll]
  | x :: xs => by
    have h1 := depth_strs xs
    simp only [List.map_cons, PyData.depthAll, PyData.depth]
    omega
theorem shaped_of {d : PyData} (h1 : d.canLay0 = true) (h2 : d.depth ≤ 64) : SeqAt.shaped d = true := by
  show (d.canLay0 && decide (d.depth ≤ 64)) = true
  rw [h1, decide_eq_true h2]
  rfl
/-- a list of two lists of texts -/
theorem shaped_two {xs ys : List Str} (hx : ∀ t ∈ xs, TOk t) (hy : ∀ t ∈ ys, TOk t) : SeqAt.shaped (.list [.list (xs.map PyData.str), .list (ys.map PyData.str)]) = true := by
  have a := depth_strs xs
  have b := depth_strs ys
  refine shaped_of ?_ ?_
  · simp only [PyData.canLay0, PyData.canLayAll0, lay_strs xs hx, lay_strs ys hy]
    rfl
  · simp only [PyData.depth, PyData.depthAll]
    omega
/-- a pair of numbers, as data -/
def pD (z : Nat × Nat) : PyData := .tuple [.int (z.1 : Int), .int (z.2 : Int)]
theorem pDs_lay : ∀ zs : List (Nat × Nat), PyData.canLayAll0 (zs.map pD) = true
  | [] => by simp [PyData.canLayAll0]
  | z :: zs => by simp [PyData.canLayAll0, pD, PyData.canLay0, pDs_lay zs]
theorem pDs_depth : ∀ zs : List (Nat × Nat), PyData.depthAll (zs.map pD) ≤ 2
  | [] => by simp [PyData.depthAll]
  | z :: zs => by
    have h1 := pDs_depth zs
    simp only [List.map_cons, PyData.depthAll, pD, PyData.depth]
    omega
theorem pDs_shaped (zs : List (Nat × Nat)) : SeqAt.shaped (.list (zs.map pD)) = true := by
  have h1 := pDs_depth zs
  refine shaped_of ?_ ?_
  · simp only [PyData.canLay0]
    exact pDs_lay zs
  · simp only [PyData.depth]
    omega
theorem Prs.dps : ∀ {ts : List Addr} {fs : List (Nat × Nat)}, Prs H ts fs → DpAll K H (ts.map V.ref) (fs.map pD)
  | [], [], _ => .nil
  | [], _ :: _, p => absurd p.len (by simp)
  | _ :: _, [], p => absurd p.len (by simp)
  | t :: ts, (i, j) :: fs, p => by
    obtain ⟨t', h1, h2⟩ := p.at_ 0 i j rfl
    cases h1
    have pr : Prs H ts fs := ⟨by simpa using p.len, fun k a b g => p.at_ (k + 1) a b (by rw [List.getElem?_cons_succ]; exact g)⟩
    exact .cons (.tup (SqT.of h2) (.cons (.int _) (.cons (.int _) .nil))) pr.dps
theorem rd_eqSelf {d : PyData} (h1 : Dp K H x d) (h2 : Dp K H y d) (hs : SeqAt.shaped d = true) (q : Q (.bl true) H) : rEqD K x y H Q :=
  ⟨d, d, h1, h2, hs, hs, by rw [SeqAt.eqv_refl d (SeqAt.canLay_of_shaped hs)]; exact q⟩
theorem rd_neSelf {d : PyData} (h1 : Dp K H x d) (h2 : Dp K H y d) (hs : SeqAt.shaped d = true) (q : Q (.bl false) H) : rNeD K x y H Q :=
  ⟨d, d, h1, h2, hs, hs, by rw [SeqAt.eqv_refl d (SeqAt.canLay_of_shaped hs)]; exact q⟩
end
end Pk
namespace Pk
open PySem PySem.Spec PyProof.Rows L2
/-- where a list changes -/
theorem Prs.mutL {H H1 : Hp} {ts : List Addr} {fs : List (Nat × Nat)} {q : Addr} {xs : List V} (p : Prs H ts fs) (h : H q = some (.lst xs)) (m : ∀ a x, a ≠ q → H a = some x → H1 a = some x) : Prs H1 ts fs :=
  ⟨p.len, fun k i j g => by
    obtain ⟨t, a, b⟩ := p.at_ k i j g
    exact ⟨t, a, m _ _ (ne_of b h (by intro z; cases z)) b⟩⟩
end Pk
local macro_rules | `(tactic| wtm_at "hs") => `(tactic| first
  | assumption
  | exact upd_same
  | exact L2.SqL.of upd_same
  | exact L2.SqL.of (by assumption)
  | (refine' Pk.keep_new (by assumption) ?rdz; (case rdz => wtm_at "hs"))
  | (refine' Pk.Ex.at (by assumption) ?rdz; (case rdz => wtm_at "hs"))
  | (refine' Pk.Ex.seqL (by assumption) ?rdz; (case rdz => wtm_at "hs"))
  | (refine' Pk.Ex.seqL (Pk.Ex.new (by assumption)) ?rdz; (case rdz => wtm_at "hs"))
  | (refine' L2.SqL.of ?rdz; (case rdz => wtm_at "hs")))
local macro_rules | `(tactic| wtm_at "go1") => `(tactic| first
  | ((with_reducible refine' Pk.rd_var ?rdh ?rdq); (case rdh => rfl))
  | (with_reducible refine Pk.rd_c ?_)
  | (with_reducible refine Pk.rd_op ?_)
  | (with_reducible refine Pk.rd_seq ?_)
  | (with_reducible refine Pk.rd_asg ?_)
  | (with_reducible refine Pk.rd_gname ?_)
  | (with_reducible refine Pk.rd_nx ?_)
  | (with_reducible refine Pk.rd_rt ?_)
  | (with_reducible refine Pk.rd_bk ?_)
  | (with_reducible refine Pk.rd_I0 ?_)
  | (with_reducible refine Pk.rd_cons ?_)
  | (with_reducible refine Pk.rd_nil ?_)
  | (with_reducible refine Pk.rd_cb ?_)
  | (with_reducible refine Pk.rd_ifs ?_)
  | (with_reducible refine Pk.rd_test ?_)
  | (with_reducible refine Pk.rd_bl ?_)
  | (with_reducible refine Pk.rd_B ?_)
  | (with_reducible refine Pk.rd_ret ?_)
  | (with_reducible refine Pk.rd_next ?_)
  | (with_reducible refine Pk.rd_drop ?_)
  | (with_reducible refine Pk.rd_call ?_)
  | (with_reducible refine Pk.rd_eqi ?_)
  | (with_reducible refine Pk.rd_nei ?_)
  | (with_reducible refine Pk.rd_eqs ?_)
  | (with_reducible refine Pk.rd_nes ?_)
  | (with_reducible refine Pk.rd_tand ?_)
  | (with_reducible refine Pk.rd_tor ?_)
  | (with_reducible refine Pk.rd_tnot ?_)
  | (with_reducible refine Pk.rd_andV ?_)
  | (with_reducible refine Pk.rd_orV ?_)
  | (with_reducible refine Pk.rd_notV ?_)
  | (with_reducible refine Pk.rd_ifx ?_)
  | (with_reducible refine Pk.rd_chain ?_)
  | (with_reducible refine Pk.rd_T ?_)
  | (with_reducible refine Pk.rd_F ?_)
  | (with_reducible refine Pk.rd_nT ?_)
  | (with_reducible refine Pk.rd_nF ?_)
  | (with_reducible refine Pk.rd_tup ?_)
  | (with_reducible refine Pk.rd_lst ?_)
  | (with_reducible refine Pk.rd_un ?_)
  | (with_reducible refine Pk.rd_U ?_)
  | (with_reducible refine Pk.rd_bm ?_)
  | (with_reducible refine Pk.rd_bm0 ?_)
  | (with_reducible refine Pk.rd_gsub ?_)
  | (with_reducible refine Pk.rd_int2 ?_)
  | (with_reducible refine Pk.rd_int1 ?_)
  | (with_reducible refine Pk.rd_brk ?_)
  | (with_reducible refine Pk.rd_retN ?_)
  | (with_reducible refine Pk.rd_for ?_)
  | (with_reducible refine Pk.rd_rng1 ?_)
  | (with_reducible refine Pk.rd_rng2 ?_)
  | (with_reducible refine Pk.rd_revR ?_)
  | (with_reducible refine Pk.rd_rg1 ?_)
  | (with_reducible refine Pk.rd_rg2 ?_)
  | (with_reducible refine Pk.rd_iList ?_)
  | (with_reducible refine Pk.rd_ref ?_)
  | (with_reducible refine Pk.rd_int ?_)
  | (with_reducible refine Pk.rd_isn ?_)
  | ((with_reducible refine' Pk.rd_mod ?rdh ?rdq); (case rdh => first | decide | omega))
  | ((with_reducible refine' Pk.rd_div ?rdh ?rdq); (case rdh => first | decide | omega))
  | ((with_reducible refine' Pk.rd_mul ?rdh ?rdq); (case rdh => first | exact Or.inl ⟨by decide, by decide⟩ | exact Or.inr ⟨by decide, by decide⟩ | omega))
  | (with_reducible refine Pk.rd_m1 ?_)
  | (with_reducible refine Pk.rd_isS ?_)
  | (with_reducible refine Pk.rd_dput ?_)
  | (with_reducible refine Pk.rd_dget ?_)
  | (with_reducible refine Pk.rd_dget2 ?_)
  | (with_reducible refine Pk.rd_din ?_)
  | (with_reducible refine Pk.rd_dnotin ?_)
  | (with_reducible refine Pk.rd_dnewK ?_)
  | (with_reducible refine Pk.rd_dnewT ?_)
  | (with_reducible refine Pk.rd_while ?_)
  | (with_reducible refine Pk.rd_lc ?_)
  | (with_reducible refine Pk.rd_tyes ?_)
  | (with_reducible refine Pk.rd_sl ?_)
  | (with_reducible refine Pk.rd_part ?_)
  | (with_reducible refine Pk.rd_nopart ?_)
  | ((with_reducible refine' Pk.rd_rlen _ ?rdh ?rdq); (case rdh => wtm_at "hs"))
  | ((with_reducible refine' Pk.rd_tyL ?rdh ?rdq); (case rdh => wtm_at "hs")))
local macro_rules | `(tactic| wtm_at "go") => `(tactic| (repeat wtm_at "go1"))
namespace PkA
open PySem PySem.Spec PyProof.Rows L2
def top (i : Nat) : Stmt := PySem.Challenge.pw_patchkin_k01_kept.main.body.getD i (.Pass ⟨0, 0, 0, 0⟩)
abbrev s_lengths : Stmt := top 1
abbrev s_next_pair : Stmt := top 2
abbrev s_kept : Stmt := top 3
abbrev s_law_cell_at : Stmt := top 5
abbrev s_law_text : Stmt := top 6
abbrev s_law_texts : Stmt := top 7
abbrev s_law_whole : Stmt := top 8
abbrev s_law_pairs_form : Stmt := top 9
abbrev s_law_most : Stmt := top 10
abbrev s_law_behind : Stmt := top 11
abbrev s_law_first : Stmt := top 12
abbrev s_law : Stmt := top 13
/-- what the top has written -/
structure Txt (K : PySem.W.Frag) (mg : Str → Option Value) : Prop where
  g_lengths : mg "lengths" = some (.ref (He.ga K "lengths"))
  k_lengths : PySem.W.keepIn K (.ref (He.ga K "lengths")) = true
  F_lengths : ∃ fd, FunD K "lengths" "lengths" (defArgs s_lengths) (defBody s_lengths) (defScope s_lengths) [] [] (He.fAd K ("lengths", none)) fd
  g_next_pair : mg "next_pair" = some (.ref (He.ga K "next_pair"))
  k_next_pair : PySem.W.keepIn K (.ref (He.ga K "next_pair")) = true
  F_next_pair : ∃ fd, FunD K "next_pair" "next_pair" (defArgs s_next_pair) (defBody s_next_pair) (defScope s_next_pair) [] [] (He.fAd K ("next_pair", none)) fd
  g_kept : mg "kept" = some (.ref (He.ga K "kept"))
  k_kept : PySem.W.keepIn K (.ref (He.ga K "kept")) = true
  F_kept : ∃ fd, FunD K "kept" "kept" (defArgs s_kept) (defBody s_kept) (defScope s_kept) [] [] (He.fAd K ("kept", none)) fd
  g_law_cell_at : mg "_law_cell_at" = some (.ref (He.ga K "_law_cell_at"))
  k_law_cell_at : PySem.W.keepIn K (.ref (He.ga K "_law_cell_at")) = true
  F_law_cell_at : ∃ fd, FunD K "_law_cell_at" "_law_cell_at" (defArgs s_law_cell_at) (defBody s_law_cell_at) (defScope s_law_cell_at) [] [] (He.fAd K ("_law_cell_at", none)) fd
  g_law_text : mg "_law_text" = some (.ref (He.ga K "_law_text"))
  k_law_text : PySem.W.keepIn K (.ref (He.ga K "_law_text")) = true
  F_law_text : ∃ fd, FunD K "_law_text" "_law_text" (defArgs s_law_text) (defBody s_law_text) (defScope s_law_text) [] [] (He.fAd K ("_law_text", none)) fd
  g_law_texts : mg "_law_texts" = some (.ref (He.ga K "_law_texts"))
  k_law_texts : PySem.W.keepIn K (.ref (He.ga K "_law_texts")) = true
  F_law_texts : ∃ fd, FunD K "_law_texts" "_law_texts" (defArgs s_law_texts) (defBody s_law_texts) (defScope s_law_texts) [] [] (He.fAd K ("_law_texts", none)) fd
  g_law_whole : mg "_law_whole" = some (.ref (He.ga K "_law_whole"))
  k_law_whole : PySem.W.keepIn K (.ref (He.ga K "_law_whole")) = true
  F_law_whole : ∃ fd, FunD K "_law_whole" "_law_whole" (defArgs s_law_whole) (defBody s_law_whole) (defScope s_law_whole) [] [] (He.fAd K ("_law_whole", none)) fd
  g_law_pairs_form : mg "_law_pairs_form" = some (.ref (He.ga K "_law_pairs_form"))
  k_law_pairs_form : PySem.W.keepIn K (.ref (He.ga K "_law_pairs_form")) = true
  F_law_pairs_form : ∃ fd, FunD K "_law_pairs_form" "_law_pairs_form" (defArgs s_law_pairs_form) (defBody s_law_pairs_form) (defScope s_law_pairs_form) [] [] (He.fAd K ("_law_pairs_form", none)) fd
  g_law_most : mg "_law_most" = some (.ref (He.ga K "_law_most"))
  k_law_most : PySem.W.keepIn K (.ref (He.ga K "_law_most")) = true
  F_law_most : ∃ fd, FunD K "_law_most" "_law_most" (defArgs s_law_most) (defBody s_law_most) (defScope s_law_most) [] [] (He.fAd K ("_law_most", none)) fd
  g_law_behind : mg "_law_behind" = some (.ref (He.ga K "_law_behind"))
  k_law_behind : PySem.W.keepIn K (.ref (He.ga K "_law_behind")) = true
  F_law_behind : ∃ fd, FunD K "_law_behind" "_law_behind" (defArgs s_law_behind) (defBody s_law_behind) (defScope s_law_behind) [] [] (He.fAd K ("_law_behind", none)) fd
  g_law_first : mg "_law_first" = some (.ref (He.ga K "_law_first"))
  k_law_first : PySem.W.keepIn K (.ref (He.ga K "_law_first")) = true
  F_law_first : ∃ fd, FunD K "_law_first" "_law_first" (defArgs s_law_first) (defBody s_law_first) (defScope s_law_first) [] [] (He.fAd K ("_law_first", none)) fd
  g_law : mg "law" = some (.ref (He.ga K "law"))
  k_law : PySem.W.keepIn K (.ref (He.ga K "law")) = true
  F_law : ∃ fd, FunD K "law" "law" (defArgs s_law) (defBody s_law) (defScope s_law) [] [] (He.fAd K ("law", none)) fd
  b_bool : mg "bool" = none
  b_int : mg "int" = none
  b_isinstance : mg "isinstance" = none
  b_len : mg "len" = none
  b_list : mg "list" = none
  b_max : mg "max" = none
  b_range : mg "range" = none
  b_reversed : mg "reversed" = none
  b_tuple : mg "tuple" = none
end PkA
namespace PkA
open PySem PySem.Spec PyProof.Rows L2
theorem sc_lengths : FnScope ["old", "new", "rows", "i", "j"] ["old", "new"] (defScope s_lengths) := ⟨rfl, rfl, rfl, by decide +kernel, rfl, by decide +kernel, by decide +kernel⟩
/-- the table of Lc -/
def sp_lengths (K : PySem.W.Frag) : Sp := fun vs H Q _ => ∃ (a b : Addr) (old new : List Str), vs = [.ref a, .ref b] ∧
  SqL K H a (old.map V.str) ∧ SqL K H b (new.map V.str) ∧ old.length ≤ 1000 ∧ new.length ≤ 1000 ∧
  ∀ (r : Addr) (rs : List Addr) (f : Nat → Nat → Nat) (H' : Hp), Pk.Ex H H' → Pk.Tab H' r rs old.length new.length f → (∀ i j, i ≤ old.length → j ≤ new.length → f i j = Pk.Lc old new i j) → Q (.ref r) H'
theorem sp_lengths_len {K : PySem.W.Frag} {vs : List V} {H : Hp} {Q : VK} {E : XK} (h : sp_lengths K vs H Q E) : vs.length = 2 := by
  obtain ⟨_, _, _, _, rfl, _⟩ := h
  rfl
/-- a table that is only laid while H stands may be changed -/
theorem tab_fresh {H0 H : Hp} {a r : Addr} {rs : List Addr} {n m : Nat} {f : Nat → Nat → Nat} (e : ∀ x ∈ rs, H0 x = none) (t : Pk.Tab H r rs n m f) {i : Nat} (ha : rs[i]? = some a) : H0 a = none := e a (List.mem_of_getElem? ha)
section
variable {P : Program} {w : World} {K : PySem.W.Frag} {mg : Str → Option Value} {base : Heap}
theorem ok_lengths (T : Txt K mg) : Pk.Ok P w K mg base CX0 1 (He.fAd K ("lengths", none)) ["old", "new"] (sp_lengths K) := by
  obtain ⟨fd, F⟩ := T.F_lengths
  refine ⟨fd, F.ok sc_lengths ?len ?body, F.bindsN fun _ _ _ _ _ _ us hl => match us, hl with | [_, _], _ => rfl⟩
  case len => exact fun vs H Q E h => sp_lengths_len h
  intro cdv A outer s H vs Q E hr h
  have hu := hu_of hr
  have hu64 := hr.units
  have hu65 := Pk.units65 hr
  refine ⟨_, PSs.nox ((pss_cons (ps_setLc (i := 2) (own := [("i", 3)]) (g := gName 3) (tt := tYes) rfl sc_lengths.nd rfl rfl (sw_true rfl rfl rfl (by decide +kernel)) (pi_range1 rfl T.b_range (pa_cons (pe_op op_add (pe_callB (Pk.lenK K) (by rfl) T.b_len Pk.bt_len (pa_cons (pv 0) pa_nil)) pe_int) pa_nil)) (blkOk_by (own := [("i", 3)]) (N := ["old", "new", "rows", "i", "j"]) (sc := defScope s_lengths) (by decide +kernel)) (fun _ _ _ _ _ => (pg_name (i := 3) sc_lengths.nd rfl (Or.inl rfl))) (fun _ _ _ _ _ => pts_nil) (fun _ _ _ _ _ => (pe_lc (own := [("j", 4)]) (g := gName 4) (tt := tYes) rfl sc_lengths.nd (pi_range1 rfl T.b_range (pa_cons (pe_op op_add (pe_callB (Pk.lenK K) (by rfl) T.b_len Pk.bt_len (pa_cons (pv 1) pa_nil)) pe_int) pa_nil)) (blkOk_by (own := [("j", 4)]) (N := ["old", "new", "rows", "i", "j"]) (by kernel_rfl)) (fun _ _ _ _ _ => (pg_name (i := 4) sc_lengths.nd rfl (Or.inl rfl))) (fun _ _ _ _ _ => pts_nil) (fun _ _ _ _ _ => pe_int))))
      (pss_cons (ps_for PassesOwn.never rfl (pi_revR rfl T.b_reversed (prg_1 rfl T.b_range (pe_callB (Pk.lenK K) (by rfl) T.b_len Pk.bt_len (pa_cons (pv 0) pa_nil)))) (pg_name (i := 3) sc_lengths.nd rfl (Or.inl rfl)) (pss_one (ps_for PassesOwn.never rfl (pi_revR rfl T.b_reversed (prg_1 rfl T.b_range (pe_callB (Pk.lenK K) (by rfl) T.b_len Pk.bt_len (pa_cons (pv 1) pa_nil)))) (pg_name (i := 4) sc_lengths.nd rfl (Or.inl rfl)) (pss_cons (ps_asg (pe_callB (call_max2 rfl) (by rfl) T.b_max Pk.bt_max (pa_cons (pe_ix (Pk.ixL K) (pe_ix (Pk.ixL K) (pv 2) (pe_op op_add (pv 3) pe_int) (fun _ _ => rfl)) (pv 4) (fun _ _ => rfl)) (pa_cons (pe_ix (Pk.ixL K) (pe_ix (Pk.ixL K) (pv 2) (pv 3) (fun _ _ => rfl)) (pe_op op_add (pv 4) pe_int) (fun _ _ => rfl)) pa_nil))) (pg_sub (pe_ix (Pk.ixL K) (pv 2) (pv 3) (fun _ _ => rfl)) (pv 4) set_list))
      (pss_one (ps_if (pt_cmpR op_eq (pe_ix (Pk.ixL K) (pv 0) (pv 3) (fun _ _ => rfl)) (pe_ix (Pk.ixL K) (pv 1) (pv 4) (fun _ _ => rfl)) (nomark _)) (pss_one (ps_asg (pe_callB (call_max2 rfl) (by rfl) T.b_max Pk.bt_max (pa_cons (pe_ix (Pk.ixL K) (pe_ix (Pk.ixL K) (pv 2) (pv 3) (fun _ _ => rfl)) (pv 4) (fun _ _ => rfl)) (pa_cons (pe_op op_add pe_int (pe_ix (Pk.ixL K) (pe_ix (Pk.ixL K) (pv 2) (pe_op op_add (pv 3) pe_int) (fun _ _ => rfl)) (pe_op op_add (pv 4) pe_int) (fun _ _ => rfl))) pa_nil))) (pg_sub (pe_ix (Pk.ixL K) (pv 2) (pv 3) (fun _ _ => rfl)) (pv 4) set_list))) pss_nil))))))
      (pss_one (ps_ret (pv 2)))))), ?_⟩
  obtain ⟨a, b, old, new, rfl, hA, hB, lA, lB, q⟩ := h
  wtm_at "go"
  rw [List.length_map]
  refine ⟨by omega, by omega, fun D hD => lc_range (lo := 0) (n := ((old.length : Int) + 1).toNat) (fun i H' => Pk.Ex H H' ∧ ∃ rs : List Addr, rs.length = i ∧ rs.Nodup ∧ (∀ x ∈ rs, H x = none ∧ x ≠ D) ∧ H' D = some (.lst (rs.map V.ref)) ∧ ∀ k, (h : k < rs.length) → H' rs[k] = some (.lst ((List.range (new.length + 1)).map fun _ => V.int (0 : Nat)))) ?_ ?_ ?_⟩
  · exact ⟨Pk.Ex.new hD, [], rfl, List.nodup_nil, fun x hx => absurd hx List.not_mem_nil, upd_same, fun k hk => absurd hk (by simp)⟩
  · rintro i H' hi ⟨eH, rs, hlen, hnd, hfr, hDl, hrow⟩
    wtm_at "go"
    refine ⟨rfl, ?_⟩
    wtm_at "go"
    rw [List.length_map]
    refine ⟨by omega, by omega, Pk.lcR (fun _ => V.int (0 : Nat)) (by omega) (fun _ => rfl) (fun j hj H2 Q2 e2 q2 => q2) (fun d hd => ?_)⟩
    have hdD : d ≠ D := Ne.symm (ne_of_none hDl hd)
    refine ⟨_, by rw [upd_ne (ne_of_none hDl hd)]; exact hDl, by rw [List.length_map]; exact Pk.line_lt (by omega), ?_⟩
    have hn : ((new.length : Int) + 1).toNat = new.length + 1 := by omega
    rw [hn]
    have hdn : H d = none := eH.back hd
    refine ⟨(eH.trans (Pk.Ex.new hd)).mut hD, rs ++ [d], by rw [List.length_append, hlen]; rfl, ?_, ?_, ?_, ?_⟩
    · rw [List.nodup_append]
      refine ⟨hnd, by simp, fun x hx y hy => ?_⟩
      rw [List.mem_singleton] at hy
      subst hy
      obtain ⟨k, hk, rfl⟩ := List.getElem_of_mem hx
      exact ne_of_none (hrow k hk) hd
    · intro x hx
      rcases List.mem_append.mp hx with hx | hx
      · exact hfr x hx
      · rw [List.mem_singleton] at hx
        subst hx
        exact ⟨hdn, hdD⟩
    · rw [upd_same, List.map_append]
      rfl
    · intro k hk
      by_cases c : k < rs.length
      · rw [List.getElem_append_left c, upd_ne (hfr _ (List.getElem_mem c)).2, upd_ne (ne_of_none (hrow k c) hd)]
        exact hrow k c
      · have ek : k = rs.length := by
          rw [List.length_append] at hk
          simp at hk
          omega
        subst ek
        rw [List.getElem_append_right (Nat.le_refl _)]
        simp only [Nat.sub_self, List.getElem_cons_zero]
        rw [upd_ne hdD, upd_same]
  · rintro H1 ⟨eH, rs, hlen, hnd, hfr, hDl, hrow⟩
    have hn : ((old.length : Int) + 1).toNat = old.length + 1 := by omega
    rw [hn] at hlen
    have t0 : Pk.Tab H1 D rs old.length new.length (fun _ _ => 0) := ⟨hDl, hlen, hnd, hrow⟩
    wtm_at "go"
    rw [List.length_map]
    refine ⟨by omega, by omega, by omega, by omega, for_rangeC (lo := 0 + (((((old.length : Int) - 0).toNat : Nat) : Int)) - 1) (c := -1) (n := ((old.length : Int) - 0).toNat)
      (fun t σ H2 => Pk.Ex H H2 ∧ (∃ vi vj : Option V, σ = [some (.ref a), some (.ref b), some (.ref D), vi, vj]) ∧ ∃ f, Pk.Tab H2 D rs old.length new.length f ∧ ∀ i j, i ≤ old.length → j ≤ new.length → (old.length - t ≤ i ∨ j = new.length) → f i j = Pk.Lc old new i j) ?_ ?_ ?_⟩
    · refine ⟨eH, ⟨none, none, rfl⟩, _, t0, fun i j hi hj c => ?_⟩
      rcases c with c | c
      · rw [Pk.Lc_left (by omega)]
      · rw [Pk.Lc_right (by omega)]
    · rintro t σ H2 ht ⟨e2, ⟨vi, vj, rfl⟩, f, tb, hf⟩
      have hi : old.length - 1 - t < old.length := by omega
      have ei : (0 + (((((old.length : Int) - 0).toNat : Nat) : Int)) - 1 + (t : Nat) * (-1) : Int) = ((old.length - 1 - t : Nat) : Int) := by omega
      rw [ei]
      generalize hI : old.length - 1 - t = I at hi
      have hA2 := e2.seqL hA
      have hB2 := e2.seqL hB
      wtm_at "go"
      rw [List.length_map]
      refine ⟨by omega, by omega, by omega, by omega, for_rangeC (lo := 0 + (((((new.length : Int) - 0).toNat : Nat) : Int)) - 1) (c := -1) (n := ((new.length : Int) - 0).toNat)
        (fun u σ H3 => Pk.Ex H H3 ∧ (∃ vj : Option V, σ = [some (.ref a), some (.ref b), some (.ref D), some (.int (I : Int)), vj]) ∧ ∃ f, Pk.Tab H3 D rs old.length new.length f ∧ ∀ i j, i ≤ old.length → j ≤ new.length → (I < i ∨ (i = I ∧ new.length - u ≤ j) ∨ j = new.length) → f i j = Pk.Lc old new i j) ?_ ?_ ?_⟩
      · refine ⟨e2, ⟨vj, rfl⟩, f, tb, fun i j h1 h2 c => ?_⟩
        rcases c with c | c | c
        · exact hf i j h1 h2 (by omega)
        · exact hf i j h1 h2 (by omega)
        · exact hf i j h1 h2 (by omega)
      · rintro u σ H3 hu3 ⟨e3, ⟨vj2, rfl⟩, f3, tb3, hf3⟩
        have hj : new.length - 1 - u < new.length := by omega
        have ej : (0 + (((((new.length : Int) - 0).toNat : Nat) : Int)) - 1 + (u : Nat) * (-1) : Int) = ((new.length - 1 - u : Nat) : Int) := by omega
        rw [ej]
        generalize hJ : new.length - 1 - u = J at hj
        have eI : (I : Int) + 1 = ((I + 1 : Nat) : Int) := by omega
        have eJ : (J : Int) + 1 = ((J + 1 : Nat) : Int) := by omega
        obtain ⟨r0, x0, y0, z0⟩ := tb3.get1 (i := I) (by omega)
        obtain ⟨r1, x1, y1, z1⟩ := tb3.get1 (i := I + 1) (by omega)
        have v1 : f3 (I + 1) J = Pk.Lc old new (I + 1) J := hf3 _ _ (by omega) (by omega) (by omega)
        have v2 : f3 I (J + 1) = Pk.Lc old new I (J + 1) := hf3 _ _ (by omega) (by omega) (by omega)
        have v3 : f3 (I + 1) (J + 1) = Pk.Lc old new (I + 1) (J + 1) := hf3 _ _ (by omega) (by omega) (by omega)
        have st := Pk.Lc_step (xs := old) (ys := new) hi hj
        wtm_at "go"
        rw [eI]
        refine Pk.rd_ixL (SqL.of tb3.top) x1 ?_
        wtm_at "go"
        refine Pk.rd_ixL (SqL.of z1) (Pk.Tab.get2 (f := f3) (i := I + 1) (j := J) (by omega)) ?_
        wtm_at "go"
        refine Pk.rd_ixL (SqL.of tb3.top) x0 ?_
        wtm_at "go"
        rw [eJ]
        refine Pk.rd_ixL (SqL.of z0) (Pk.Tab.get2 (f := f3) (i := I) (j := J + 1) (by omega)) ?_
        wtm_at "go"
        refine Pk.rd_ixL (SqL.of tb3.top) x0 ?_
        wtm_at "go"
        have em : (if ((f3 I (J + 1) : Nat) : Int) > ((f3 (I + 1) J : Nat) : Int) then ((f3 I (J + 1) : Nat) : Int) else ((f3 (I + 1) J : Nat) : Int)) = ((max (f3 (I + 1) J) (f3 I (J + 1)) : Nat) : Int) := by
          split <;> omega
        rw [em]
        generalize hM : max (f3 (I + 1) J) (f3 I (J + 1)) = M
        refine Pk.rd_setL z0 (by rw [List.length_map, List.length_range]; omega) ?_
        have hr0 : H r0 = none := (hfr r0 (List.mem_of_getElem? y0)).1
        obtain ⟨f4, g4, k4, tb4⟩ : ∃ f4 : Nat → Nat → Nat, f4 I J = M ∧ (∀ i j, ¬ (i = I ∧ j = J) → f4 i j = f3 i j) ∧ Pk.Tab (upd H3 r0 (.lst (((List.range (new.length + 1)).map fun j => V.int (f3 I j : Nat)).set J (.int (M : Int))))) D rs old.length new.length f4 :=
          ⟨_, if_pos ⟨rfl, rfl⟩, fun i j h => if_neg h, tb3.put (j := J) (v := M) y0⟩
        have e4 := e3.mut (p := r0) (o := .lst (((List.range (new.length + 1)).map fun j => V.int (f3 I j : Nat)).set J (.int (M : Int)))) hr0
        generalize hH4 : upd H3 r0 (.lst (((List.range (new.length + 1)).map fun j => V.int (f3 I j : Nat)).set J (.int (M : Int)))) = H4 at tb4 e4 ⊢
        have hA4 := e4.seqL hA
        have hB4 := e4.seqL hB
        wtm_at "go"
        refine Pk.rd_ixL hA4 (Pk.at_mapN hi) ?_
        wtm_at "go"
        refine Pk.rd_ixL hB4 (Pk.at_mapN hj) ?_
        wtm_at "go"
        refine Pk.rd_dec (fun c => ?_) (fun c => ?_)
        · obtain ⟨q0, x0, y0, z0⟩ := tb4.get1 (i := I) (by omega)
          obtain ⟨q1, x1, y1, z1⟩ := tb4.get1 (i := I + 1) (by omega)
          wtm_at "go"
          refine Pk.rd_ixL (SqL.of tb4.top) x0 ?_
          wtm_at "go"
          refine Pk.rd_ixL (SqL.of z0) (Pk.Tab.get2 (f := f4) (i := I) (j := J) (by omega)) ?_
          wtm_at "go"
          rw [eI]
          refine Pk.rd_ixL (SqL.of tb4.top) x1 ?_
          wtm_at "go"
          rw [eJ]
          refine Pk.rd_ixL (SqL.of z1) (Pk.Tab.get2 (f := f4) (i := I + 1) (j := J + 1) (by omega)) ?_
          wtm_at "go"
          refine Pk.rd_ixL (SqL.of tb4.top) x0 ?_
          wtm_at "go"
          have w2 : f4 (I + 1) (J + 1) = f3 (I + 1) (J + 1) := k4 _ _ (by omega)
          have em2 : (if 1 + ((f4 (I + 1) (J + 1) : Nat) : Int) > ((f4 I J : Nat) : Int) then 1 + ((f4 (I + 1) (J + 1) : Nat) : Int) else ((f4 I J : Nat) : Int)) = ((max (f4 I J) (1 + f4 (I + 1) (J + 1)) : Nat) : Int) := by
            split <;> omega
          rw [em2]
          generalize hM2 : max (f4 I J) (1 + f4 (I + 1) (J + 1)) = M2
          refine Pk.rd_setL z0 (by rw [List.length_map, List.length_range]; omega) ?_
          have tb5 := tb4.put (j := J) (v := M2) y0
          have hq0 : H q0 = none := (hfr q0 (List.mem_of_getElem? y0)).1
          wtm_at "go"
          refine ⟨e4.mut hq0, ⟨_, rfl⟩, _, tb5, fun i j h1 h2 cc => ?_⟩
          rw [if_pos c] at st
          by_cases d : i = I ∧ j = J
          · rw [if_pos d, d.1, d.2]
            omega
          · rw [if_neg d, k4 i j d]
            exact hf3 i j h1 h2 (by omega)
        · wtm_at "go"
          refine ⟨e4, ⟨_, rfl⟩, f4, tb4, fun i j h1 h2 cc => ?_⟩
          rw [if_neg c] at st
          by_cases d : i = I ∧ j = J
          · rw [d.1, d.2, g4]
            omega
          · rw [k4 i j d]
            exact hf3 i j h1 h2 (by omega)
      · rintro σ H3 ⟨e3, ⟨vj2, rfl⟩, f3, tb3, hf3⟩
        wtm_at "go"
        exact ⟨e3, ⟨_, _, rfl⟩, f3, tb3, fun i j h1 h2 c => hf3 i j h1 h2 (by omega)⟩
    · rintro σ H2 ⟨e2, ⟨vi, vj, rfl⟩, f, tb, hf⟩
      wtm_at "go"
      exact q D rs f H2 e2 tb fun i j h1 h2 => hf i j h1 h2 (by omega)
end
end PkA
namespace PkA
open PySem PySem.Spec PyProof.Rows L2
theorem sc_next_pair : FnScope ["old", "new", "rows", "left", "right", "i", "j"] ["old", "new", "rows", "left", "right"] (defScope s_next_pair) := ⟨rfl, rfl, rfl, by decide +kernel, rfl, by decide +kernel, by decide +kernel⟩
/-- the first pair from (l, r) on that begins as many as can be -/
def sp_next_pair (K : PySem.W.Frag) : Sp := fun vs H Q _ => ∃ (a b r : Addr) (old new : List Str) (rs : List Addr) (l rr : Nat) (f : Nat → Nat → Nat), vs = [.ref a, .ref b, .ref r, .int (l : Int), .int (rr : Int)] ∧
  SqL K H a (old.map V.str) ∧ SqL K H b (new.map V.str) ∧ old.length ≤ 1000 ∧ new.length ≤ 1000 ∧ Pk.Tab H r rs old.length new.length f ∧ (∀ i j, i ≤ old.length → j ≤ new.length → f i j = Pk.Lc old new i j) ∧ l ≤ old.length ∧ rr ≤ new.length ∧
  ∀ (o : Option (Nat × Nat)) (v : V) (H' : Hp), Pk.IsNext old new l rr o → Pk.Ex H H' → Pk.PairV H' v o → Q v H'
theorem sp_next_pair_len {K : PySem.W.Frag} {vs : List V} {H : Hp} {Q : VK} {E : XK} (h : sp_next_pair K vs H Q E) : vs.length = 5 := by
  obtain ⟨_, _, _, _, _, _, _, _, _, rfl, _⟩ := h
  rfl
section
variable {P : Program} {w : World} {K : PySem.W.Frag} {mg : Str → Option Value} {base : Heap}
theorem ok_next_pair (T : Txt K mg) : Pk.Ok P w K mg base CX0 1 (He.fAd K ("next_pair", none)) ["old", "new", "rows", "left", "right"] (sp_next_pair K) := by
  obtain ⟨fd, F⟩ := T.F_next_pair
  refine ⟨fd, F.ok sc_next_pair ?len ?body, F.bindsN fun _ _ _ _ _ _ us hl => match us, hl with | [_, _, _, _, _], _ => rfl⟩
  case len => exact fun vs H Q E h => sp_next_pair_len h
  intro cdv A outer s H vs Q E hr h
  have hu := hu_of hr
  have hu64 := hr.units
  have hu65 := Pk.units65 hr
  refine ⟨_, PSs.nox ((pss_cons (ps_for PassesOwn.never rfl (pi_range2 rfl T.b_range (pa_cons (pv 3) (pa_cons (pe_callB (Pk.lenK K) (by rfl) T.b_len Pk.bt_len (pa_cons (pv 0) pa_nil)) pa_nil))) (pg_name (i := 5) sc_next_pair.nd rfl (Or.inl rfl)) (pss_one (ps_for PassesOwn.never rfl (pi_range2 rfl T.b_range (pa_cons (pv 4) (pa_cons (pe_callB (Pk.lenK K) (by rfl) T.b_len Pk.bt_len (pa_cons (pv 1) pa_nil)) pa_nil))) (pg_name (i := 6) sc_next_pair.nd rfl (Or.inl rfl)) (pss_one (ps_if (PW.pt (pw_and (pt_cmpR op_eq (pe_ix (Pk.ixL K) (pv 0) (pv 5) (fun _ _ => rfl)) (pe_ix (Pk.ixL K) (pv 1) (pv 6) (fun _ _ => rfl)) (nomark _)) (pw_and1 (pt_cmpR op_eq (pe_op op_add pe_int (pe_ix (Pk.ixL K) (pe_ix (Pk.ixL K) (pv 2) (pe_op op_add (pv 5) pe_int) (fun _ _ => rfl)) (pe_op op_add (pv 6) pe_int) (fun _ _ => rfl))) (pe_ix (Pk.ixL K) (pe_ix (Pk.ixL K) (pv 2) (pv 3) (fun _ _ => rfl)) (pv 4) (fun _ _ => rfl)) (nomark _))))) (pss_one (ps_ret (pe_tup (pa_cons (pv 5) (pa_cons (pv 6) pa_nil))))) pss_nil)))))
      (pss_one (ps_ret pe_non)))), ?_⟩
  obtain ⟨a, b, r, old, new, rs, l, rr, f, rfl, hA, hB, lA, lB, tb, hf, hl, hr2, qq⟩ := h
  wtm_at "go"
  rw [List.length_map]
  refine ⟨⟨by omega, by omega, by omega, by omega⟩, for_range (lo := (l : Int)) (n := ((old.length : Int) - (l : Int)).toNat) (fun t σ H' => H' = H ∧ (∃ vi vj : Option V, σ = [some (.ref a), some (.ref b), some (.ref r), some (.int (l : Int)), some (.int (rr : Int)), vi, vj]) ∧ ∀ i j, i < l + t → ¬ Pk.Hit old new l rr i j) ?_ ?_ ?_⟩
  · exact ⟨rfl, ⟨none, none, rfl⟩, fun i j hi q => absurd q.1 (by omega)⟩
  · rintro t σ H' ht ⟨rfl, ⟨vi, vj, rfl⟩, no⟩
    wtm_at "go"
    rw [List.length_map]
    refine ⟨⟨by omega, by omega, by omega, by omega⟩, for_range (lo := (rr : Int)) (n := ((new.length : Int) - (rr : Int)).toNat) (fun u σ H2 => H2 = H' ∧ (∃ vj : Option V, σ = [some (.ref a), some (.ref b), some (.ref r), some (.int (l : Int)), some (.int (rr : Int)), some (.int ((l : Int) + (t : Int))), vj]) ∧ ∀ j, j < rr + u → ¬ Pk.Hit old new l rr (l + t) j) ?_ ?_ ?_⟩
    · exact ⟨rfl, ⟨vj, rfl⟩, fun j hj q => absurd q.2.1 (by omega)⟩
    · rintro u σ H2 hu2 ⟨rfl, ⟨vj, rfl⟩, no2⟩
      have h1 : l + t < old.length := by omega
      have h2 : rr + u < new.length := by omega
      have e1 : (l : Int) + (t : Int) = ((l + t : Nat) : Int) := by omega
      have e2 : (rr : Int) + (u : Int) = ((rr + u : Nat) : Int) := by omega
      rw [e1, e2]
      have hit : ∀ i j, Pk.Hit old new l rr i j → ¬ (l + t < i ∨ (l + t = i ∧ rr + u ≤ j)) → False := by
        intro i j q hn
        by_cases c : i < l + t
        · exact no i j c q
        · have ei : i = l + t := by omega
          subst ei
          exact no2 j (by omega) q
      wtm_at "go"
      refine Pk.rd_ixL hA (Pk.at_mapN h1) ?_
      wtm_at "go"
      refine Pk.rd_ixL hB (Pk.at_mapN h2) ?_
      wtm_at "go"
      refine Pk.rd_dec (fun c => ?_) (fun c => ?_)
      · obtain ⟨a1, x1, y1, z1⟩ := tb.get1 (i := l + t + 1) (by omega)
        obtain ⟨a2, x2, y2, z2⟩ := tb.get1 (i := l) hl
        have e3 : ((l + t : Nat) : Int) + 1 = ((l + t + 1 : Nat) : Int) := by omega
        have e4 : ((rr + u : Nat) : Int) + 1 = ((rr + u + 1 : Nat) : Int) := by omega
        wtm_at "go"
        rw [e3]
        refine Pk.rd_ixL (SqL.of tb.top) x1 ?_
        wtm_at "go"
        rw [e4]
        refine Pk.rd_ixL (SqL.of z1) (Pk.Tab.get2 (by omega)) ?_
        wtm_at "go"
        refine Pk.rd_ixL (SqL.of tb.top) x2 ?_
        wtm_at "go"
        refine Pk.rd_ixL (SqL.of z2) (Pk.Tab.get2 (by omega)) ?_
        wtm_at "go"
        rw [hf _ _ (by omega) (by omega), hf _ _ hl hr2]
        have hc : old[l + t]? = new[rr + u]? := by rw [List.getElem?_eq_getElem h1, List.getElem?_eq_getElem h2, c]
        refine Pk.rd_dec (fun c2 => ?_) (fun c2 => ?_)
        · wtm_at "go"
          refine ⟨by show 2 ≤ sizeLine; decide, fun p hp => ?_⟩
          wtm_at "go"
          refine qq (some (l + t, rr + u)) _ _ ⟨⟨by omega, by omega, h1, h2, hc, (by show 1 + Pk.Lc old new (l + t + 1) (rr + u + 1) = _; omega)⟩, fun i j q => ?_⟩ (Pk.Ex.new hp) ⟨p, rfl, upd_same⟩
          refine Classical.byContradiction fun w => ?_
          exact hit i j q w
        · wtm_at "go"
          refine ⟨rfl, ⟨_, rfl⟩, fun j hj q => ?_⟩
          by_cases d : j < rr + u
          · exact no2 j d q
          · have ej : j = rr + u := by omega
            subst ej
            exact c2 (by have := q.2.2.2.2.2; omega)
      · wtm_at "go"
        refine ⟨rfl, ⟨_, rfl⟩, fun j hj q => ?_⟩
        by_cases d : j < rr + u
        · exact no2 j d q
        · have ej : j = rr + u := by omega
          subst ej
          have z := q.2.2.2.2.1
          rw [List.getElem?_eq_getElem h1, List.getElem?_eq_getElem h2] at z
          exact c (Option.some.inj z)
    · rintro σ H2 ⟨rfl, ⟨vj, rfl⟩, no2⟩
      wtm_at "go"
      refine ⟨rfl, ⟨_, _, rfl⟩, fun i j hi q => ?_⟩
      by_cases c : i < l + t
      · exact no i j c q
      · have ei : i = l + t := by omega
        subst ei
        exact no2 j (by have := q.2.2.2.1; omega) q
  · rintro σ H' ⟨rfl, ⟨vi, vj, rfl⟩, no⟩
    wtm_at "go"
    exact qq none _ _ (fun i j q => no i j (by have := q.2.2.1; omega) q) (Pk.Ex.refl _) rfl
end
end PkA
namespace PkA
open PySem PySem.Spec PyProof.Rows L2
theorem sc_kept : FnScope ["old", "new", "rows", "found", "pair"] ["old", "new"] (defScope s_kept) := ⟨rfl, rfl, rfl, by decide +kernel, rfl, by decide +kernel, by decide +kernel⟩
/-- the greedy pairs, a new list of tuples -/
def sp_kept (K : PySem.W.Frag) : Sp := fun vs H Q _ => ∃ (a b : Addr) (old new : List Str), vs = [.ref a, .ref b] ∧
  SqL K H a (old.map V.str) ∧ SqL K H b (new.map V.str) ∧ old.length ≤ 1000 ∧ new.length ≤ 1000 ∧
  ∀ (p : Addr) (ts : List Addr) (fs : List (Nat × Nat)) (H' : Hp), H p = none → Pk.Ex H H' → Pk.Kept old new 0 0 fs → H' p = some (.lst (ts.map V.ref)) → Pk.Prs H' ts fs → Q (.ref p) H'
theorem sp_kept_len {K : PySem.W.Frag} {vs : List V} {H : Hp} {Q : VK} {E : XK} (h : sp_kept K vs H Q E) : vs.length = 2 := by
  obtain ⟨_, _, _, _, rfl, _⟩ := h
  rfl
/-- between two turns of the while -/
structure KeptW (H1 : Hp) (a b r pf : Addr) (old new : List Str) (m : Nat) (σ : L2.St) (H' : Hp) : Prop where
  ex : Pk.Ex H1 H'
  st : ∃ (l rr : Nat) (o : Option (Nat × Nat)) (fs : List (Nat × Nat)) (ts : List Addr) (v : V), m = Pk.Lc old new l rr ∧ Pk.IsNext old new l rr o ∧ (∀ t, Pk.Kept old new l rr t → Pk.Kept old new 0 0 (fs ++ t)) ∧
    fs.length + Pk.Lc old new l rr ≤ 1000 ∧ H' pf = some (.lst (ts.map V.ref)) ∧ Pk.Prs H' ts fs ∧ Pk.PairV H' v o ∧ σ = [some (.ref a), some (.ref b), some (.ref r), some (.ref pf), some v]
section
variable {P : Program} {w : World} {K : PySem.W.Frag} {mg : Str → Option Value} {base : Heap}
theorem ok_kept (T : Txt K mg) : Pk.Ok P w K mg base CX0 2 (He.fAd K ("kept", none)) ["old", "new"] (sp_kept K) := by
  obtain ⟨fd, F⟩ := T.F_kept
  obtain ⟨fd_lengths, G_lengths, B_lengths⟩ := (ok_lengths (P := P) (w := w) (base := base) T).ex
  obtain ⟨fd_next_pair, G_next_pair, B_next_pair⟩ := (ok_next_pair (P := P) (w := w) (base := base) T).ex
  refine ⟨fd, F.ok sc_kept ?len ?body, F.bindsN fun _ _ _ _ _ _ us hl => match us, hl with | [_, _], _ => rfl⟩
  case len => exact fun vs H Q E h => sp_kept_len h
  intro cdv A outer s H vs Q E hr h
  have hu := hu_of hr
  have hu64 := hr.units
  have hu65 := Pk.units65 hr
  refine ⟨_, PSs.nox ((pss_cons (ps_set (i := 2) sc_kept.nd rfl (Or.inl rfl) (pe_call G_lengths (hr.mono (by decide)) rfl T.g_lengths T.k_lengths B_lengths .nil pass0 (pa_cons (pv 0) (pa_cons (pv 1) pa_nil))))
      (pss_cons (ps_set (i := 3) sc_kept.nd rfl (Or.inl rfl) (pe_lst pa_nil))
      (pss_cons (ps_set (i := 4) sc_kept.nd rfl (Or.inl rfl) (pe_call G_next_pair (hr.mono (by decide)) rfl T.g_next_pair T.k_next_pair B_next_pair .nil pass0 (pa_cons (pv 0) (pa_cons (pv 1) (pa_cons (pv 2) (pa_cons pe_int (pa_cons pe_int pa_nil)))))))
      (pss_cons (ps_while PassesOwn.never (pt_cmpR op_notN (pv 4) pe_non (nomark _)) (pss_cons (ps_expr (pe_bm PySem.F.plainAttrs_list PySem.F.slot_list_append PySem.F.type_list_append mt_append (pv 3) (pa_cons (pv 4) pa_nil)))
      (pss_one (ps_set (i := 4) sc_kept.nd rfl (Or.inl rfl) (pe_call G_next_pair (hr.mono (by decide)) rfl T.g_next_pair T.k_next_pair B_next_pair .nil pass0 (pa_cons (pv 0) (pa_cons (pv 1) (pa_cons (pv 2) (pa_cons (pe_op op_add (pe_ix (Pk.ixT K) (pv 4) pe_int (fun _ _ => rfl)) pe_int) (pa_cons (pe_op op_add (pe_ix (Pk.ixT K) (pv 4) pe_int (fun _ _ => rfl)) pe_int) pa_nil))))))))))
      (pss_one (ps_ret (pv 3)))))))), ?_⟩
  obtain ⟨a, b, old, new, rfl, hA, hB, lA, lB, q⟩ := h
  wtm_at "go"
  refine ⟨a, b, old, new, rfl, hA, hB, lA, lB, fun r rs f H1 e1 tb hf => ?_⟩
  wtm_at "go"
  refine ⟨by show 0 ≤ sizeLine; decide, fun pf hpf => ?_⟩
  have e2 : Pk.Ex H1 (upd H1 pf (.lst [])) := Pk.Ex.new hpf
  have tb2 := tb.ex e2
  have hA2 := e2.seqL (e1.seqL hA)
  have hB2 := e2.seqL (e1.seqL hB)
  have lc : Pk.Lc old new 0 0 ≤ 1000 := by
    obtain ⟨s, s1, s2, s3⟩ := Pk.lcs_ex (old.drop 0) (new.drop 0)
    have z := s1.length_le
    unfold Pk.Lc
    rw [← s3]
    rw [List.length_drop] at z
    omega
  wtm_at "go"
  refine ⟨a, b, r, old, new, rs, 0, 0, f, rfl, hA2, hB2, lA, lB, tb2, hf, Nat.zero_le _, Nat.zero_le _, fun o v H2 n0 e3 pv => ?_⟩
  wtm_at "go"
  refine ⟨KeptW H1 a b r pf old new, ⟨_, ⟨e2.trans e3, 0, 0, o, [], [], v, rfl, n0, fun t ht => ht, by simpa using lc, e3 _ _ upd_same, Pk.Prs.nil, pv, rfl⟩⟩, ?_⟩
  rintro m σ H3 ⟨ex, l, rr, o, fs, ts, v, rfl, nx, kp, sz, hpf3, prs, pv, rfl⟩
  wtm_at "go"
  cases o with
  | none =>
    have ev : v = .non := pv
    subst ev
    refine Pk.rd_nyes rfl ?_
    wtm_at "go"
    have z := kp [] (.nil nx)
    rw [List.append_nil] at z
    exact q pf ts fs H3 (e1.back hpf) (e1.trans ex) z hpf3 prs
  | some ij =>
    obtain ⟨i, j⟩ := ij
    obtain ⟨t, rfl, ht⟩ := pv
    refine Pk.rd_nno (by intro z; cases z) ?_
    have hit := nx.1
    have nxe := nx.some_eq
    refine ⟨fun σ' H' => ∃ m', m' < Pk.Lc old new l rr ∧ KeptW H1 a b r pf old new m' σ' H', fun _ _ h => h, ?_⟩
    wtm_at "go"
    refine Pk.rd_app hpf3 (by rw [List.length_map, prs.len]; exact Pk.line_lt (by omega)) ?_
    have e4 : Pk.Ex H1 (upd H3 pf (.lst (ts.map V.ref ++ [.ref t]))) := ex.mut hpf
    have ht4 : upd H3 pf (.lst (ts.map V.ref ++ [.ref t])) t = some (.tup [.int (i : Int), .int (j : Int)]) := by
      rw [upd_ne (ne_of ht hpf3 (by intro z; cases z))]
      exact ht
    have prs4 := prs.upd (o := .lst (ts.map V.ref ++ [.ref t])) hpf3
    have hpf4 : upd H3 pf (.lst (ts.map V.ref ++ [.ref t])) pf = some (.lst ((ts ++ [t]).map V.ref)) := by
      rw [upd_same, List.map_append]
      rfl
    generalize upd H3 pf (.lst (ts.map V.ref ++ [.ref t])) = H4 at e4 ht4 prs4 hpf4 ⊢
    wtm_at "go"
    refine Pk.rd_ixT (SqT.of ht4) (Pk.at_nat (k := 0) rfl) ?_
    wtm_at "go"
    refine Pk.rd_ixT (SqT.of ht4) (Pk.at_nat (k := 1) rfl) ?_
    wtm_at "go"
    have hi := hit.2.2.1
    have hj := hit.2.2.2.1
    simp only at hi hj
    refine ⟨a, b, r, old, new, rs, i + 1, j + 1, f, rfl, e4.seqL (e1.seqL hA), e4.seqL (e1.seqL hB), lA, lB, tb.ex e4, hf, hi, hj, fun o v H5 n5 e5 pv5 => ?_⟩
    wtm_at "go"
    refine ⟨_, ?_, ⟨e4.trans e5, i + 1, j + 1, o, fs ++ [(i, j)], ts ++ [t], v, rfl, n5, fun t' ht' => ?_, ?_, e5 _ _ hpf4, (prs4.snoc ht4).ex e5, pv5, rfl⟩⟩
    · omega
    · rw [List.append_assoc]
      exact kp _ (.cons nx ht')
    · rw [List.length_append]
      simp only [List.length_cons, List.length_nil]
      omega
end
end PkA
namespace PkA
open PySem PySem.Spec PyProof.Rows L2
theorem sc_law_cell_at : FnScope ["script", "k"] ["script", "k"] (defScope s_law_cell_at) := ⟨rfl, rfl, rfl, by decide +kernel, rfl, by decide +kernel, by decide +kernel⟩
/-- a cell of the script, or nought -/
def sp_law_cell_at (K : PySem.W.Frag) : Sp := fun vs H Q _ => ∃ (a : Addr) (ns : List Int) (k : Int), vs = [.ref a, .int k] ∧ SqL K H a (ns.map V.int) ∧ 0 ≤ k ∧ ∀ n, Q (.int n) H
theorem sp_law_cell_at_len {K : PySem.W.Frag} {vs : List V} {H : Hp} {Q : VK} {E : XK} (h : sp_law_cell_at K vs H Q E) : vs.length = 2 := by
  obtain ⟨_, _, _, rfl, _⟩ := h
  rfl
section
variable {P : Program} {w : World} {K : PySem.W.Frag} {mg : Str → Option Value} {base : Heap}
theorem ok_law_cell_at (T : Txt K mg) : Pk.Ok P w K mg base CX0 1 (He.fAd K ("_law_cell_at", none)) ["script", "k"] (sp_law_cell_at K) := by
  obtain ⟨fd, F⟩ := T.F_law_cell_at
  refine ⟨fd, F.ok sc_law_cell_at ?len ?body, F.bindsN fun _ _ _ _ _ _ us hl => match us, hl with | [_, _], _ => rfl⟩
  case len => exact fun vs H Q E h => sp_law_cell_at_len h
  intro cdv A outer s H vs Q E hr h
  have hu := hu_of hr
  have hu64 := hr.units
  have hu65 := Pk.units65 hr
  refine ⟨_, PSs.nox ((pss_cons (ps_if (pt_cmpR op_lt (pv 1) (pe_callB (Pk.lenK K) (by rfl) T.b_len Pk.bt_len (pa_cons (pv 0) pa_nil)) (nomark _)) (pss_one (ps_ret (pe_ix (Pk.ixL K) (pv 0) (pv 1) (fun _ _ => rfl)))) pss_nil)
      (pss_one (ps_ret pe_int)))), ?_⟩
  obtain ⟨a, ns, k, rfl, hS, h0, q⟩ := h
  wtm_at "go"
  refine Pk.rd_dec (fun c => ?_) (fun c => ?_)
  · wtm_at "go"
    rw [List.length_map] at c
    refine Pk.rd_ixL hS (Pk.at_map h0 (by omega)) ?_
    wtm_at "go"
    exact q _
  · wtm_at "go"
    exact q _
end
end PkA
namespace PkA
open PySem PySem.Spec PyProof.Rows L2
theorem sc_law_text : FnScope ["cell", "signs", "size", "j"] ["cell"] (defScope s_law_text) := ⟨rfl, rfl, rfl, by decide +kernel, rfl, by decide +kernel, by decide +kernel⟩
/-- some text of at most 80 signs -/
def sp_law_text (K : PySem.W.Frag) : Sp := fun vs H Q _ => ∃ (c : Int), vs = [.int c] ∧ ∀ (s : Str) (H' : Hp), Pk.Ex H H' → Pk.TOk s → s.length ≤ 80 → Q (.str s) H'
theorem sp_law_text_len {K : PySem.W.Frag} {vs : List V} {H : Hp} {Q : VK} {E : XK} (h : sp_law_text K vs H Q E) : vs.length = 1 := by
  obtain ⟨_, rfl, _⟩ := h
  rfl
section
variable {P : Program} {w : World} {K : PySem.W.Frag} {mg : Str → Option Value} {base : Heap}
theorem ok_law_text (T : Txt K mg) : Pk.Ok P w K mg base CX0 1 (He.fAd K ("_law_text", none)) ["cell"] (sp_law_text K) := by
  obtain ⟨fd, F⟩ := T.F_law_text
  refine ⟨fd, F.ok sc_law_text ?len ?body, F.bindsN fun _ _ _ _ _ _ us hl => match us, hl with | [_], _ => rfl⟩
  case len => exact fun vs H Q E h => sp_law_text_len h
  intro cdv A outer s H vs Q E hr h
  have hu := hu_of hr
  have hu64 := hr.units
  have hu65 := Pk.units65 hr
  refine ⟨_, PSs.nox ((pss_cons (ps_set (i := 1) sc_law_text.nd rfl (Or.inr rfl) pe_str)
      (pss_cons (ps_if (pt_cmpR op_eq (pe_op op_mod (pv 0) pe_int) pe_int (nomark _)) (pss_one (ps_ret (pe_ix (Pk.ixL K) (pe_lst (pa_cons pe_str (pa_cons pe_str (pa_cons pe_str (pa_cons pe_str pa_nil))))) (pe_op op_mod (pe_op op_fdiv (pv 0) pe_int) pe_int) (fun _ _ => rfl)))) pss_nil)
      (pss_cons (ps_set (i := 2) sc_law_text.nd rfl (Or.inl rfl) (pe_op op_mod (pe_op op_fdiv (pv 0) pe_int) pe_int))
      (Evl.pss_cut (ps_if (pt_cmpR op_eq (pe_op op_mod (pe_op op_fdiv (pv 0) pe_int) pe_int) pe_int (nomark _)) (pss_one (ps_set (i := 2) sc_law_text.nd rfl (Or.inl rfl) pe_int)) pss_nil)
      (pss_one (ps_ret (Pk.joinK K pe_str (pe_lc (own := [("j", 3)]) (g := gName 3) (tt := tYes) rfl sc_law_text.nd (pi_range1 rfl T.b_range (pa_cons (pv 2) pa_nil)) (blkOk_by (own := [("j", 3)]) (N := ["cell", "signs", "size", "j"]) (sc := defScope s_law_text) (by decide +kernel)) (fun _ _ _ _ _ => (pg_name (i := 3) sc_law_text.nd rfl (Or.inl rfl))) (fun _ _ _ _ _ => pts_nil) (fun _ _ _ _ _ => (pe_ix ix_str (pv 1) (pe_op op_mod (pe_op op_add (pe_op op_fdiv (pv 0) pe_int) (pe_op op_mul pe_int (pv 3))) (pe_callB call_len_str (by rfl) T.b_len Pk.bt_len (pa_cons (pv 1) pa_nil))) (fun _ _ => rfl)))))))))))), ?_⟩
  obtain ⟨c, rfl, q⟩ := h
  wtm_at "go"
  refine Pk.rd_dec (fun c0 => ?_) (fun c0 => ?_)
  · wtm_at "go"
    refine ⟨by show 4 ≤ sizeLine; decide, fun p hp => ?_⟩
    wtm_at "go"
    have h1 : 0 ≤ c / 3 % 4 := Int.emod_nonneg _ (by decide)
    have h2 : c / 3 % 4 < 4 := Int.emod_lt_of_pos _ (by decide)
    generalize c / 3 % 4 = k at h1 h2 ⊢
    obtain ⟨n, rfl⟩ := Int.eq_ofNat_of_zero_le h1
    have hn : n = 0 ∨ n = 1 ∨ n = 2 ∨ n = 3 := by omega
    have e1 := Pk.Ex.new (o := .lst [V.str (Str.ofString "a"), V.str (Str.ofString "b"), V.str (Str.ofString ""), V.str (Str.ofString " ")]) hp
    rcases hn with rfl | rfl | rfl | rfl
    · refine Pk.rd_ixL (SqL.of upd_same) (Pk.at_nat (k := 0) rfl) ?_
      wtm_at "go"
      exact q _ _ e1 (by unfold Pk.TOk; decide +kernel) (by decide +kernel)
    · refine Pk.rd_ixL (SqL.of upd_same) (Pk.at_nat (k := 1) rfl) ?_
      wtm_at "go"
      exact q _ _ e1 (by unfold Pk.TOk; decide +kernel) (by decide +kernel)
    · refine Pk.rd_ixL (SqL.of upd_same) (Pk.at_nat (k := 2) rfl) ?_
      wtm_at "go"
      exact q _ _ e1 (by unfold Pk.TOk; decide +kernel) (by decide +kernel)
    · refine Pk.rd_ixL (SqL.of upd_same) (Pk.at_nat (k := 3) rfl) ?_
      wtm_at "go"
      exact q _ _ e1 (by unfold Pk.TOk; decide +kernel) (by decide +kernel)
  · wtm_at "go"
    refine Pk.rd_cut (fun σ' H' => H' = H ∧ ∃ n : Int, 0 ≤ n ∧ n ≤ 80 ∧ σ' = [some (.int c), some (.str Pk.signs), some (.int n), none]) ?_ ?_
    · wtm_at "go"
      refine Pk.rd_dec (fun c1 => ?_) (fun c1 => ?_)
      · wtm_at "go"
        exact ⟨rfl, 80, by decide, by decide, rfl⟩
      · wtm_at "go"
        have h1 : 0 ≤ c / 3 % 5 := Int.emod_nonneg _ (by decide)
        have h2 : c / 3 % 5 < 5 := Int.emod_lt_of_pos _ (by decide)
        exact ⟨rfl, c / 3 % 5, h1, by omega, rfl⟩
    · rintro σ' H' ⟨rfl, n, n0, n1, rfl⟩
      wtm_at "go"
      have hc : ∀ i : Nat, ∃ d : Nat, atI Pk.signs.cps.toList ((c / 45 + 7 * (i : Int)) % 90) = some d ∧ d < 128 := fun i => Pk.signs_at (Int.emod_nonneg _ (by decide)) (Int.emod_lt_of_pos _ (by decide))
      refine ⟨by omega, by omega, Pk.lcR (fun i => .str ⟨#[Classical.choose (hc i)]⟩) (by omega) (fun _ => rfl) (fun i hi H2 Q2 e2 q2 => ?_) (fun D hD => ?_)⟩
      · wtm_at "go"
        have ei : (0 : Int) + (i : Int) = (i : Int) := by omega
        rw [ei]
        have hl : ((Pk.signs.length : Nat) : Int) = 90 := by rw [Pk.signs_len]; rfl
        refine Pk.rd_lenS (by rw [Pk.signs_len]; exact Pk.line_le (by omega)) ?_
        rw [hl]
        wtm_at "go"
        exact Pk.rd_ixS (by rw [Pk.signs_len]; exact Pk.line_le (by omega)) (Classical.choose_spec (hc i)).1 q2
      · have hs : (List.range n.toNat).map (fun i => V.str ⟨#[Classical.choose (hc i)]⟩) = (((List.range n.toNat).map fun i => Classical.choose (hc i)).map fun d => (⟨#[d]⟩ : Str)).map V.str := by
          rw [List.map_map, List.map_map]
          rfl
        have ln : ((List.range n.toNat).map fun i => Classical.choose (hc i)).length = n.toNat := by rw [List.length_map, List.length_range]
        have lo : ∀ d ∈ (List.range n.toNat).map (fun i => Classical.choose (hc i)), d < 128 := by
          intro d hd
          obtain ⟨i, _, rfl⟩ := List.mem_map.mp hd
          exact (Classical.choose_spec (hc i)).2
        have hsz : ∀ cs : List Nat, ((cs.map fun d => (⟨#[d]⟩ : Str)).map (·.length)).sum = cs.length := by
          intro cs
          induction cs with
          | nil => rfl
          | cons x r ih =>
            rw [List.map_cons, List.map_cons, List.sum_cons, ih, List.length_cons]
            show 1 + r.length = r.length + 1
            omega
        generalize (List.range n.toNat).map (fun i => Classical.choose (hc i)) = cs at hs ln lo
        refine ⟨_, _, cs.map fun d => (⟨#[d]⟩ : Str), rfl, rfl, .inl (SqL.of (by rw [upd_same, hs])), ?_, ?_⟩
        · rw [hsz, List.length_map, ln]
          have e0 : (Str.ofString "").length = 0 := rfl
          rw [e0]
          omega
        · refine q _ _ (Pk.Ex.new hD) (Pk.tok_of fun d hd => ?_) ?_
          · have z : d ∈ cs := by
              have y := Pk.join_signs cs
              rw [← y]
              exact hd
            have := lo d z
            omega
          · have y := Pk.join_signs_len cs
            rw [ln] at y
            exact Nat.le_trans (Nat.le_of_eq y) (by omega)
end
end PkA
namespace PkA
open PySem PySem.Spec PyProof.Rows L2
theorem sc_law_texts : FnScope ["script", "first", "size", "k"] ["script", "first", "size"] (defScope s_law_texts) := ⟨rfl, rfl, rfl, by decide +kernel, rfl, by decide +kernel, by decide +kernel⟩
/-- a new list of that many texts -/
def sp_law_texts (K : PySem.W.Frag) : Sp := fun vs H Q _ => ∃ (a : Addr) (ns : List Int) (k n : Int), vs = [.ref a, .int k, .int n] ∧ SqL K H a (ns.map V.int) ∧ 0 ≤ k ∧ 0 ≤ n ∧ n ≤ 1000 ∧
  ∀ (p : Addr) (ts : List Str) (H' : Hp), H p = none → Pk.Ex H H' → H' p = some (.lst (ts.map V.str)) → ts.length = n.toNat → (∀ t ∈ ts, Pk.TOk t) → Q (.ref p) H'
theorem sp_law_texts_len {K : PySem.W.Frag} {vs : List V} {H : Hp} {Q : VK} {E : XK} (h : sp_law_texts K vs H Q E) : vs.length = 3 := by
  obtain ⟨_, _, _, _, rfl, _⟩ := h
  rfl
theorem strs_of : ∀ {ws : List V}, (∀ v ∈ ws, ∃ t, v = V.str t ∧ Pk.TOk t) → ∃ ts : List Str, ws = ts.map V.str ∧ ∀ t ∈ ts, Pk.TOk t
  | [], _ => ⟨[], rfl, fun t ht => absurd ht List.not_mem_nil⟩
  | v :: r, h => by
    obtain ⟨t, e, ok⟩ := h v List.mem_cons_self
    obtain ⟨ts, e2, ok2⟩ := strs_of fun x hx => h x (List.mem_cons_of_mem _ hx)
    refine ⟨t :: ts, by rw [e, e2]; rfl, fun x hx => ?_⟩
    rcases List.mem_cons.mp hx with z | z
    · rw [z]; exact ok
    · exact ok2 x z
section
variable {P : Program} {w : World} {K : PySem.W.Frag} {mg : Str → Option Value} {base : Heap}
theorem ok_law_texts (T : Txt K mg) : Pk.Ok P w K mg base CX0 2 (He.fAd K ("_law_texts", none)) ["script", "first", "size"] (sp_law_texts K) := by
  obtain ⟨fd, F⟩ := T.F_law_texts
  obtain ⟨fd_law_text, G_law_text, B_law_text⟩ := (ok_law_text (P := P) (w := w) (base := base) T).ex
  obtain ⟨fd_law_cell_at, G_law_cell_at, B_law_cell_at⟩ := (ok_law_cell_at (P := P) (w := w) (base := base) T).ex
  refine ⟨fd, F.ok sc_law_texts ?len ?body, F.bindsN fun _ _ _ _ _ _ us hl => match us, hl with | [_, _, _], _ => rfl⟩
  case len => exact fun vs H Q E h => sp_law_texts_len h
  intro cdv A outer s H vs Q E hr h
  have hu := hu_of hr
  have hu64 := hr.units
  have hu65 := Pk.units65 hr
  refine ⟨_, PSs.nox ((pss_one (ps_ret (pe_lc (own := [("k", 3)]) (g := gName 3) (tt := tYes) rfl sc_law_texts.nd (pi_range1 rfl T.b_range (pa_cons (pv 2) pa_nil)) (blkOk_by (own := [("k", 3)]) (N := ["script", "first", "size", "k"]) (sc := defScope s_law_texts) (by decide +kernel)) (fun _ _ _ _ _ => (pg_name (i := 3) sc_law_texts.nd rfl (Or.inl rfl))) (fun _ _ _ _ _ => pts_nil) (fun _ _ _ _ _ => (pe_call G_law_text (hr.mono (by decide)) rfl T.g_law_text T.k_law_text B_law_text .nil pass0 (pa_cons (pe_op op_add (pe_call G_law_cell_at (hr.mono (by decide)) rfl T.g_law_cell_at T.k_law_cell_at B_law_cell_at .nil pass0 (pa_cons (pv 0) (pa_cons (pe_op op_add (pv 1) (pe_op op_mod (pv 3) pe_int)) pa_nil))) (pe_op op_mul pe_int (pe_op op_fdiv (pv 3) pe_int))) pa_nil))))))), ?_⟩
  obtain ⟨a, ns, k, n, rfl, hS, h0, n0, n1, q⟩ := h
  wtm_at "go"
  refine ⟨by omega, by omega, Pk.lcRx (fun v => ∃ t, v = V.str t ∧ Pk.TOk t) (by omega) (fun _ => rfl) (fun i hi H2 Q2 e2 q2 => ?_) (fun D ws H2 hD e2 hl hlen hp => ?_)⟩
  · wtm_at "go"
    have h1 : 0 ≤ (0 + (i : Int)) % 20 := Int.emod_nonneg _ (by decide)
    refine ⟨a, ns, _, rfl, e2.seqL hS, by omega, fun m => ?_⟩
    wtm_at "go"
    exact ⟨_, rfl, fun s H3 e3 ok _ => q2 _ _ e3 ⟨s, rfl, ok⟩⟩
  · obtain ⟨ts, rfl, ok⟩ := strs_of hp
    wtm_at "go"
    exact q D ts H2 hD e2 hl (by rw [← hlen, List.length_map]) ok
end
end PkA
namespace PkA
open PySem PySem.Spec PyProof.Rows L2
theorem sc_law_whole : FnScope ["found"] ["found"] (defScope s_law_whole) := ⟨rfl, rfl, rfl, by decide +kernel, rfl, by decide +kernel, by decide +kernel⟩
/-- a whole number is one -/
def sp_law_whole (K : PySem.W.Frag) : Sp := fun vs H Q _ => ∃ (c : Int), vs = [.int c] ∧ Q (.bl true) H
theorem sp_law_whole_len {K : PySem.W.Frag} {vs : List V} {H : Hp} {Q : VK} {E : XK} (h : sp_law_whole K vs H Q E) : vs.length = 1 := by
  obtain ⟨_, rfl, _⟩ := h
  rfl
section
variable {P : Program} {w : World} {K : PySem.W.Frag} {mg : Str → Option Value} {base : Heap}
theorem ok_law_whole (T : Txt K mg) : Pk.Ok P w K mg base CX0 1 (He.fAd K ("_law_whole", none)) ["found"] (sp_law_whole K) := by
  obtain ⟨fd, F⟩ := T.F_law_whole
  refine ⟨fd, F.ok sc_law_whole ?len ?body, F.bindsN fun _ _ _ _ _ _ us hl => match us, hl with | [_], _ => rfl⟩
  case len => exact fun vs H Q E h => sp_law_whole_len h
  intro cdv A outer s H vs Q E hr h
  have hu := hu_of hr
  have hu64 := hr.units
  have hu65 := Pk.units65 hr
  refine ⟨_, PSs.nox ((pss_one (ps_ret (pe_and (pe_callB (Pk.isiK K) (by rfl) T.b_isinstance Pk.bt_isinstance (pa_cons (pv 0) (pa_cons (pe_bltn (v := .ty "int") (by rfl) T.b_int Pk.bt_int rfl) pa_nil))) (pe_one (pe_not (pe_callB (Pk.isiK K) (by rfl) T.b_isinstance Pk.bt_isinstance (pa_cons (pv 0) (pa_cons (pe_bltn (v := .ty "bool") (by rfl) T.b_bool Pk.bt_bool rfl) pa_nil))))))))), ?_⟩
  obtain ⟨c, rfl, q⟩ := h
  wtm_at "go"
  refine ⟨_, _, _, _, _, rfl, .ty "int", .base (.int c), kit_ty (a := "int") (b := "int") (r := true) (by decide +kernel), ?_⟩
  wtm_at "go"
  refine ⟨_, _, _, _, _, rfl, .ty "bool", .base (.int c), kit_ty (a := "int") (b := "bool") (r := false) (by decide +kernel), ?_⟩
  wtm_at "go"
  exact q
end
end PkA
namespace PkA
open PySem PySem.Spec PyProof.Rows L2
theorem sc_law_pairs_form : FnScope ["found", "pair"] ["found"] (defScope s_law_pairs_form) := ⟨rfl, rfl, rfl, by decide +kernel, rfl, by decide +kernel, by decide +kernel⟩
/-- a row of pairs of numbers has the form -/
def sp_law_pairs_form (K : PySem.W.Frag) : Sp := fun vs H Q _ => ∃ (p : Addr) (ts : List Addr) (fs : List (Nat × Nat)), vs = [.ref p] ∧ H p = some (.lst (ts.map V.ref)) ∧ Pk.Prs H ts fs ∧ Q (.bl true) H
theorem sp_law_pairs_form_len {K : PySem.W.Frag} {vs : List V} {H : Hp} {Q : VK} {E : XK} (h : sp_law_pairs_form K vs H Q E) : vs.length = 1 := by
  obtain ⟨_, _, _, rfl, _⟩ := h
  rfl
section
variable {P : Program} {w : World} {K : PySem.W.Frag} {mg : Str → Option Value} {base : Heap}
theorem ok_law_pairs_form (T : Txt K mg) : Pk.Ok P w K mg base CX0 2 (He.fAd K ("_law_pairs_form", none)) ["found"] (sp_law_pairs_form K) := by
  obtain ⟨fd, F⟩ := T.F_law_pairs_form
  obtain ⟨fd_law_whole, G_law_whole, B_law_whole⟩ := (ok_law_whole (P := P) (w := w) (base := base) T).ex
  refine ⟨fd, F.ok sc_law_pairs_form ?len ?body, F.bindsN fun _ _ _ _ _ _ us hl => match us, hl with | [_], _ => rfl⟩
  case len => exact fun vs H Q E h => sp_law_pairs_form_len h
  intro cdv A outer s H vs Q E hr h
  have hu := hu_of hr
  have hu64 := hr.units
  have hu65 := Pk.units65 hr
  refine ⟨_, PSs.nox ((pss_cons (ps_if (pt_not (pt_val (pe_callB (Pk.isiK K) (by rfl) T.b_isinstance Pk.bt_isinstance (pa_cons (pv 0) (pa_cons (pe_bltn (v := .ty "list") (by rfl) T.b_list Pk.bt_list rfl) pa_nil))))) (pss_one (ps_ret pe_bl)) pss_nil)
      (pss_cons (ps_for PassesOwn.never rfl (Pk.piL K (pv 0)) (pg_name (i := 1) sc_law_pairs_form.nd rfl (Or.inl rfl)) (pss_one (ps_if (PW.pt (pw_or (pt_not (pt_val (pe_callB (Pk.isiK K) (by rfl) T.b_isinstance Pk.bt_isinstance (pa_cons (pv 1) (pa_cons (pe_bltn (v := .ty "tuple") (by rfl) T.b_tuple Pk.bt_tuple rfl) pa_nil))))) (pw_or (pt_cmpR op_ne (pe_callB (Pk.lenK K) (by rfl) T.b_len Pk.bt_len (pa_cons (pv 1) pa_nil)) pe_int (nomark _)) (pw_or (pt_not (pt_val (pe_call G_law_whole (hr.mono (by decide)) rfl T.g_law_whole T.k_law_whole B_law_whole .nil pass0 (pa_cons (pe_ix (Pk.ixT K) (pv 1) pe_int (fun _ _ => rfl)) pa_nil)))) (pw_or1 (pt_not (pt_val (pe_call G_law_whole (hr.mono (by decide)) rfl T.g_law_whole T.k_law_whole B_law_whole .nil pass0 (pa_cons (pe_ix (Pk.ixT K) (pv 1) pe_int (fun _ _ => rfl)) pa_nil))))))))) (pss_one (ps_ret pe_bl)) pss_nil)))
      (pss_one (ps_ret pe_bl))))), ?_⟩
  obtain ⟨p, ts, fs, rfl, hp, prs, q⟩ := h
  wtm_at "go"
  refine ⟨_, _, _, _, _, rfl, .ty "list", .base (.lst hp), kit_ty (a := "list") (b := "list") (r := true) (by decide +kernel), ?_⟩
  wtm_at "go"
  refine ⟨⟨_, SqL.of hp⟩, for_list (K := K) (a := p) (xs := ts.map V.ref) (fun i σ H' => H' = H ∧ ∃ v : Option V, σ = [some (.ref p), v]) ⟨rfl, none, rfl⟩ (fun i σ H' _ z => by rw [z.1]; exact SqL.of hp) ?_ ?_⟩
  · rintro i x σ H' hx ⟨rfl, v, rfl⟩
    have hi : i < fs.length := by
      have z := (List.getElem?_eq_some_iff.mp hx).1
      rw [List.length_map, prs.len] at z
      exact z
    obtain ⟨t, ht, hT⟩ := prs.at_ i _ _ (List.getElem?_eq_getElem hi)
    rw [List.getElem?_map, ht] at hx
    cases hx
    wtm_at "go"
    refine ⟨_, _, _, _, _, rfl, .ty "tuple", .base (.tup hT), kit_ty (a := "tuple") (b := "tuple") (r := true) (by decide +kernel), ?_⟩
    wtm_at "go"
    refine Pk.rd_rlenT _ (SqT.of hT) ?_
    wtm_at "go"
    refine Pk.rd_nyes rfl ?_
    wtm_at "go"
    refine Pk.rd_ixT (SqT.of hT) (Pk.at_nat (k := 0) rfl) ?_
    wtm_at "go"
    refine ⟨_, rfl, ?_⟩
    wtm_at "go"
    refine Pk.rd_ixT (SqT.of hT) (Pk.at_nat (k := 1) rfl) ?_
    wtm_at "go"
    refine ⟨_, rfl, ?_⟩
    wtm_at "go"
    exact ⟨rfl, _, rfl⟩
  · rintro σ H' ⟨rfl, v, rfl⟩
    wtm_at "go"
    exact q
end
end PkA
namespace PkA
open PySem PySem.Spec PyProof.Rows L2
theorem sc_law_most : FnScope ["old", "new", "row", "left", "then", "k", "best"] ["old", "new"] (defScope s_law_most) := ⟨rfl, rfl, rfl, by decide +kernel, rfl, by decide +kernel, by decide +kernel⟩
/-- as many pairs as can be, counted from the front -/
def sp_law_most (K : PySem.W.Frag) : Sp := fun vs H Q _ => ∃ (a b : Addr) (old new : List Str), vs = [.ref a, .ref b] ∧
  SqL K H a (old.map V.str) ∧ SqL K H b (new.map V.str) ∧ old.length ≤ 1000 ∧ new.length ≤ 1000 ∧ ∀ H', Pk.Ex H H' → Q (.int (Pk.Lc old new 0 0 : Nat)) H'
theorem sp_law_most_len {K : PySem.W.Frag} {vs : List V} {H : Hp} {Q : VK} {E : XK} (h : sp_law_most K vs H Q E) : vs.length = 2 := by
  obtain ⟨_, _, _, _, rfl, _⟩ := h
  rfl
section
variable {P : Program} {w : World} {K : PySem.W.Frag} {mg : Str → Option Value} {base : Heap}
theorem ok_law_most (T : Txt K mg) : Pk.Ok P w K mg base CX0 1 (He.fAd K ("_law_most", none)) ["old", "new"] (sp_law_most K) := by
  obtain ⟨fd, F⟩ := T.F_law_most
  refine ⟨fd, F.ok sc_law_most ?len ?body, F.bindsN fun _ _ _ _ _ _ us hl => match us, hl with | [_, _], _ => rfl⟩
  case len => exact fun vs H Q E h => sp_law_most_len h
  intro cdv A outer s H vs Q E hr h
  have hu := hu_of hr
  have hu64 := hr.units
  have hu65 := Pk.units65 hr
  refine ⟨_, PSs.nox ((pss_cons (ps_setLc (i := 2) (own := [("k", 5)]) (g := gName 5) (tt := tYes) rfl sc_law_most.nd rfl rfl (sw_true rfl rfl rfl (by decide +kernel)) (pi_range1 rfl T.b_range (pa_cons (pe_op op_add (pe_callB (Pk.lenK K) (by rfl) T.b_len Pk.bt_len (pa_cons (pv 1) pa_nil)) pe_int) pa_nil)) (blkOk_by (own := [("k", 5)]) (N := ["old", "new", "row", "left", "then", "k", "best"]) (sc := defScope s_law_most) (by decide +kernel)) (fun _ _ _ _ _ => (pg_name (i := 5) sc_law_most.nd rfl (Or.inl rfl))) (fun _ _ _ _ _ => pts_nil) (fun _ _ _ _ _ => pe_int))
      (pss_cons (ps_for PassesOwn.never rfl (Pk.piL K (pv 0)) (pg_name (i := 3) sc_law_most.nd rfl (Or.inl rfl)) (pss_cons (ps_set (i := 4) sc_law_most.nd rfl (Or.inl rfl) (pe_lst (pa_cons pe_int pa_nil)))
      (pss_cons (ps_for PassesOwn.never rfl (pi_range1 rfl T.b_range (pa_cons (pe_callB (Pk.lenK K) (by rfl) T.b_len Pk.bt_len (pa_cons (pv 1) pa_nil)) pa_nil)) (pg_name (i := 5) sc_law_most.nd rfl (Or.inl rfl)) (pss_cons (ps_set (i := 6) sc_law_most.nd rfl (Or.inl rfl) (pe_callB (call_max2 rfl) (by rfl) T.b_max Pk.bt_max (pa_cons (pe_ix (Pk.ixL K) (pv 2) (pe_op op_add (pv 5) pe_int) (fun _ _ => rfl)) (pa_cons (pe_ix (Pk.ixL K) (pv 4) (pv 5) (fun _ _ => rfl)) pa_nil))))
      (Evl.pss_cut (ps_if (pt_cmpR op_eq (pv 3) (pe_ix (Pk.ixL K) (pv 1) (pv 5) (fun _ _ => rfl)) (nomark _)) (pss_one (ps_set (i := 6) sc_law_most.nd rfl (Or.inl rfl) (pe_callB (call_max2 rfl) (by rfl) T.b_max Pk.bt_max (pa_cons (pv 6) (pa_cons (pe_op op_add (pe_ix (Pk.ixL K) (pv 2) (pv 5) (fun _ _ => rfl)) pe_int) pa_nil))))) pss_nil)
      (pss_one (ps_expr (pe_bm PySem.F.plainAttrs_list PySem.F.slot_list_append PySem.F.type_list_append mt_append (pv 4) (pa_cons (pv 6) pa_nil)))))))
      (pss_one (ps_set (i := 2) sc_law_most.nd rfl (Or.inl rfl) (pv 4))))))
      (pss_one (ps_ret (pe_ix (Pk.ixL K) (pv 2) (pe_un un_neg pe_int) (fun _ _ => rfl))))))), ?_⟩
  obtain ⟨a, b, old, new, rfl, hA, hB, lA, lB, q⟩ := h
  wtm_at "go"
  rw [List.length_map]
  have gt : ∀ (t k : Nat), k ≤ new.length → atI ((List.range (new.length + 1)).map fun k => V.int (Pk.Pre old new t k : Nat)) (k : Int) = some (.int (Pk.Pre old new t k : Nat)) := fun t k hk => Pk.Tab.get2 (f := Pk.Pre old new) (i := t) (j := k) hk
  refine ⟨by omega, by omega, Pk.lcR (fun _ => V.int (0 : Nat)) (by omega) (fun _ => rfl) (fun j hj H2 Q2 e2 q2 => q2) (fun D hD => ?_)⟩
  have hn : ((new.length : Int) + 1).toNat = new.length + 1 := by omega
  rw [hn]
  wtm_at "go"
  refine ⟨⟨_, (Pk.Ex.new hD).seqL hA⟩, for_list (K := K) (a := a) (xs := old.map V.str) (fun t σ H' => Pk.Ex H H' ∧ ∃ (r : Addr) (v1 v2 v3 v4 : Option V), σ = [some (.ref a), some (.ref b), some (.ref r), v1, v2, v3, v4] ∧ H' r = some (.lst ((List.range (new.length + 1)).map fun k => V.int (Pk.Pre old new t k : Nat)))) ?_ (fun i σ H' _ z => z.1.seqL hA) ?_ ?_⟩
  · refine ⟨Pk.Ex.new hD, D, _, _, _, _, rfl, ?_⟩
    rw [upd_same]
    congr 2
    apply List.map_congr_left
    intro k _
    rw [Pk.Pre_zero_left]
  · rintro t x σ H' hx ⟨e1, r, v1, v2, v3, v4, rfl, hr1⟩
    have ht : t < old.length := by
      have z := (List.getElem?_eq_some_iff.mp hx).1
      rw [List.length_map] at z
      exact z
    rw [List.getElem?_map, List.getElem?_eq_getElem ht] at hx
    cases hx
    wtm_at "go"
    refine ⟨by show 1 ≤ sizeLine; decide, fun d hd => ?_⟩
    have hdr := ne_of_none hr1 hd
    have hA1 := (e1.trans (Pk.Ex.new (o := .lst [V.int 0]) hd)).seqL hA
    have hB1 := (e1.trans (Pk.Ex.new (o := .lst [V.int 0]) hd)).seqL hB
    wtm_at "go"
    rw [List.length_map]
    refine ⟨by omega, by omega, for_range (lo := 0) (n := ((new.length : Int)).toNat) (fun k σ H2 => Pk.Ex H' H2 ∧ (∃ (v3 v4 : Option V), σ = [some (.ref a), some (.ref b), some (.ref r), some (.str old[t]), some (.ref d), v3, v4]) ∧ H2 d = some (.lst ((List.range (k + 1)).map fun k => V.int (Pk.Pre old new (t + 1) k : Nat)))) ?_ ?_ ?_⟩
    · refine ⟨Pk.Ex.new hd, ⟨_, _, rfl⟩, ?_⟩
      rw [upd_same]
      show some (HO.lst [V.int 0]) = some (HO.lst [V.int ((Pk.Pre old new (t + 1) 0 : Nat) : Int)])
      rw [Pk.Pre_zero_right]
      rfl
    · rintro k σ H2 hk ⟨e2, ⟨v3, v4, rfl⟩, hd2⟩
      have hk2 : k < new.length := by omega
      have e0 : (0 : Int) + (k : Int) = (k : Int) := by omega
      have e3 : (k : Int) + 1 = ((k + 1 : Nat) : Int) := by omega
      have hr2 := e2 _ _ hr1
      have hB2 := (e1.trans e2).seqL hB
      have gd : atI ((List.range (k + 1)).map fun k => V.int (Pk.Pre old new (t + 1) k : Nat)) (k : Int) = some (.int (Pk.Pre old new (t + 1) k : Nat)) := Pk.Tab.get2 (f := Pk.Pre old new) (i := t + 1) (j := k) (m := k) (Nat.le_refl _)
      rw [e0]
      wtm_at "go"
      rw [e3]
      refine Pk.rd_ixL (SqL.of hr2) (gt t (k + 1) (by omega)) ?_
      wtm_at "go"
      refine Pk.rd_ixL (SqL.of hd2) gd ?_
      wtm_at "go"
      have em : (if ((Pk.Pre old new (t + 1) k : Nat) : Int) > ((Pk.Pre old new t (k + 1) : Nat) : Int) then ((Pk.Pre old new (t + 1) k : Nat) : Int) else ((Pk.Pre old new t (k + 1) : Nat) : Int)) = ((max (Pk.Pre old new t (k + 1)) (Pk.Pre old new (t + 1) k) : Nat) : Int) := by
        split <;> omega
      rw [em]
      have st := Pk.Pre_step old new ht hk2
      refine Pk.rd_cut (fun σ' H' => H' = H2 ∧ σ' = [some (.ref a), some (.ref b), some (.ref r), some (.str old[t]), some (.ref d), some (.int (k : Int)), some (.int (Pk.Pre old new (t + 1) (k + 1) : Nat))]) ?_ ?_
      · wtm_at "go"
        refine Pk.rd_ixL hB2 (Pk.at_mapN hk2) ?_
        wtm_at "go"
        refine Pk.rd_dec (fun c => ?_) (fun c => ?_)
        · wtm_at "go"
          refine Pk.rd_ixL (SqL.of hr2) (gt t k (by omega)) ?_
          wtm_at "go"
          rw [if_pos c] at st
          have em2 : (if ((Pk.Pre old new t k : Nat) : Int) + 1 > ((max (Pk.Pre old new t (k + 1)) (Pk.Pre old new (t + 1) k) : Nat) : Int) then ((Pk.Pre old new t k : Nat) : Int) + 1 else ((max (Pk.Pre old new t (k + 1)) (Pk.Pre old new (t + 1) k) : Nat) : Int)) = ((Pk.Pre old new (t + 1) (k + 1) : Nat) : Int) := by
            split <;> omega
          rw [em2]
          exact ⟨rfl, rfl⟩
        · wtm_at "go"
          rw [if_neg c] at st
          have em2 : ((max (Pk.Pre old new t (k + 1)) (Pk.Pre old new (t + 1) k) : Nat) : Int) = ((Pk.Pre old new (t + 1) (k + 1) : Nat) : Int) := by omega
          rw [em2]
          exact ⟨rfl, rfl⟩
      · rintro σ' H3 ⟨rfl, rfl⟩
        wtm_at "go"
        refine Pk.rd_app hd2 (by rw [List.length_map, List.length_range]; exact Pk.line_lt (by omega)) ?_
        wtm_at "go"
        refine ⟨e2.mut hd, ⟨_, _, rfl⟩, ?_⟩
        rw [upd_same, List.range_succ (n := k + 1), List.map_append]
        rfl
    · rintro σ H2 ⟨e2, ⟨v3, v4, rfl⟩, hd2⟩
      wtm_at "go"
      exact ⟨e1.trans e2, d, _, _, _, _, rfl, hd2⟩
  · rintro σ H' ⟨e1, r, v1, v2, v3, v4, rfl, hr1⟩
    wtm_at "go"
    rw [List.length_map, List.range_succ, List.map_append] at hr1
    refine Pk.rd_ixL (SqL.of hr1) (atI_last _ _) ?_
    wtm_at "go"
    have z := q _ e1
    rw [← Pk.Pre_end old new] at z
    exact z
end
end PkA
namespace PkA
open PySem PySem.Spec PyProof.Rows L2
theorem sc_law_behind : FnScope ["old", "new", "rows", "i", "j"] ["old", "new"] (defScope s_law_behind) := ⟨rfl, rfl, rfl, by decide +kernel, rfl, by decide +kernel, by decide +kernel⟩
/-- a dict of how many pairs there can be, from each two places on -/
def sp_law_behind (K : PySem.W.Frag) : Sp := fun vs H Q _ => ∃ (a b : Addr) (old new : List Str), vs = [.ref a, .ref b] ∧
  SqL K H a (old.map V.str) ∧ SqL K H b (new.map V.str) ∧ old.length ≤ 1000 ∧ new.length ≤ 1000 ∧
  ∀ (p : Addr) (kvs : List (List Key × V)) (H' : Hp), Pk.Ex H H' → H' p = some (.dT kvs) → (∀ i j, i ≤ old.length → j ≤ new.length → valV kvs (Pk.kk i j) = some (.int (Pk.Lc old new i j : Nat))) → Q (.ref p) H'
theorem sp_law_behind_len {K : PySem.W.Frag} {vs : List V} {H : Hp} {Q : VK} {E : XK} (h : sp_law_behind K vs H Q E) : vs.length = 2 := by
  obtain ⟨_, _, _, _, rfl, _⟩ := h
  rfl
section
variable {P : Program} {w : World} {K : PySem.W.Frag} {mg : Str → Option Value} {base : Heap}
theorem ok_law_behind (T : Txt K mg) : Pk.Ok P w K mg base CX0 1 (He.fAd K ("_law_behind", none)) ["old", "new"] (sp_law_behind K) := by
  obtain ⟨fd, F⟩ := T.F_law_behind
  refine ⟨fd, F.ok sc_law_behind ?len ?body, F.bindsN fun _ _ _ _ _ _ us hl => match us, hl with | [_, _], _ => rfl⟩
  case len => exact fun vs H Q E h => sp_law_behind_len h
  intro cdv A outer s H vs Q E hr h
  have hu := hu_of hr
  have hu64 := hr.units
  have hu65 := Pk.units65 hr
  refine ⟨_, PSs.nox ((pss_cons (ps_set (i := 2) sc_law_behind.nd rfl (Or.inl rfl) pe_dnewT)
      (pss_cons (ps_for PassesOwn.never rfl (pi_revR rfl T.b_reversed (prg_1 rfl T.b_range (pe_op op_add (pe_callB (Pk.lenK K) (by rfl) T.b_len Pk.bt_len (pa_cons (pv 0) pa_nil)) pe_int))) (pg_name (i := 3) sc_law_behind.nd rfl (Or.inl rfl)) (pss_one (ps_for PassesOwn.never rfl (pi_revR rfl T.b_reversed (prg_1 rfl T.b_range (pe_op op_add (pe_callB (Pk.lenK K) (by rfl) T.b_len Pk.bt_len (pa_cons (pv 1) pa_nil)) pe_int))) (pg_name (i := 4) sc_law_behind.nd rfl (Or.inl rfl)) (pss_cons (ps_dput hu (pv 2) (pe_tup (pa_cons (pv 3) (pa_cons (pv 4) pa_nil))) (pe_callB (call_max2 rfl) (by rfl) T.b_max Pk.bt_max (pa_cons (pe_dget2 hu (pv 2) (pe_tup (pa_cons (pe_op op_add (pv 3) pe_int) (pa_cons (pv 4) pa_nil))) pe_int ⟨rfl, rfl, rfl, rfl⟩) (pa_cons (pe_dget2 hu (pv 2) (pe_tup (pa_cons (pv 3) (pa_cons (pe_op op_add (pv 4) pe_int) pa_nil))) pe_int ⟨rfl, rfl, rfl, rfl⟩) pa_nil))) rfl)
      (pss_one (ps_if (PW.pt (pw_and (pt_cmpR op_lt (pv 3) (pe_callB (Pk.lenK K) (by rfl) T.b_len Pk.bt_len (pa_cons (pv 0) pa_nil)) (nomark _)) (pw_and (pt_cmpR op_lt (pv 4) (pe_callB (Pk.lenK K) (by rfl) T.b_len Pk.bt_len (pa_cons (pv 1) pa_nil)) (nomark _)) (pw_and1 (pt_cmpR op_eq (pe_ix (Pk.ixL K) (pv 0) (pv 3) (fun _ _ => rfl)) (pe_ix (Pk.ixL K) (pv 1) (pv 4) (fun _ _ => rfl)) (nomark _)))))) (pss_one (ps_dput hu (pv 2) (pe_tup (pa_cons (pv 3) (pa_cons (pv 4) pa_nil))) (pe_callB (call_max2 rfl) (by rfl) T.b_max Pk.bt_max (pa_cons (pe_dget hu (pv 2) (pe_tup (pa_cons (pv 3) (pa_cons (pv 4) pa_nil))) (fun _ _ => rfl)) (pa_cons (pe_op op_add pe_int (pe_dget hu (pv 2) (pe_tup (pa_cons (pe_op op_add (pv 3) pe_int) (pa_cons (pe_op op_add (pv 4) pe_int) pa_nil))) (fun _ _ => rfl))) pa_nil))) rfl)) pss_nil))))))
      (pss_one (ps_ret (pv 2)))))), ?_⟩
  obtain ⟨a, b, old, new, rfl, hA, hB, lA, lB, q⟩ := h
  wtm_at "go"
  intro p hp
  wtm_at "go"
  rw [List.length_map]
  refine ⟨by omega, by omega, by omega, by omega, for_rangeC (lo := 0 + (((((old.length : Int) + 1 - 0).toNat : Nat) : Int)) - 1) (c := -1) (n := ((old.length : Int) + 1 - 0).toNat)
    (fun t σ H' => Pk.Ex H H' ∧ (∃ v1 v2 : Option V, σ = [some (.ref a), some (.ref b), some (.ref p), v1, v2]) ∧ ∃ kvs, H' p = some (.dT kvs) ∧ kvs.length ≤ t * (new.length + 1) ∧ Pk.Grid kvs (fun i j => old.length + 1 - t ≤ i ∧ i ≤ old.length ∧ j ≤ new.length) (Pk.Lc old new)) ?_ ?_ ?_⟩
  · refine ⟨Pk.Ex.new hp, ⟨_, _, rfl⟩, [], upd_same, Nat.zero_le _, (Pk.Grid.nil (f := Pk.Lc old new)).same (fun i j => ⟨fun z => z.elim, fun z => by omega⟩) fun i j z => by omega⟩
  · rintro t σ H1 ht ⟨e1, ⟨v1, v2, rfl⟩, kvs, hk, lk, g⟩
    have ht2 : t ≤ old.length := by omega
    have eI : (0 + (((((old.length : Int) + 1 - 0).toNat : Nat) : Int)) - 1 + (t : Nat) * (-1) : Int) = ((old.length - t : Nat) : Int) := by omega
    rw [eI]
    have hB1 := e1.seqL hB
    wtm_at "go"
    rw [List.length_map]
    refine ⟨by omega, by omega, by omega, by omega, for_rangeC (lo := 0 + (((((new.length : Int) + 1 - 0).toNat : Nat) : Int)) - 1) (c := -1) (n := ((new.length : Int) + 1 - 0).toNat)
      (fun u σ H2 => Pk.Ex H H2 ∧ (∃ v2 : Option V, σ = [some (.ref a), some (.ref b), some (.ref p), some (.int ((old.length - t : Nat) : Int)), v2]) ∧ ∃ kvs, H2 p = some (.dT kvs) ∧ kvs.length ≤ t * (new.length + 1) + u ∧ Pk.Grid kvs (fun i j => i ≤ old.length ∧ j ≤ new.length ∧ (old.length + 1 - t ≤ i ∨ (i = old.length - t ∧ new.length + 1 - u ≤ j))) (Pk.Lc old new)) ?_ ?_ ?_⟩
    · exact ⟨e1, ⟨_, rfl⟩, kvs, hk, lk, g.same (fun i j => by omega) fun i j _ => rfl⟩
    · rintro u σ H2 hu2 ⟨e2, ⟨v2, rfl⟩, kvs, hk, lk, g⟩
      have hu3 : u ≤ new.length := by omega
      have eJ : (0 + (((((new.length : Int) + 1 - 0).toNat : Nat) : Int)) - 1 + (u : Nat) * (-1) : Int) = ((new.length - u : Nat) : Int) := by omega
      rw [eJ]
      generalize hI : old.length - t = I at *
      generalize hJ : new.length - u = J at *
      have eI1 : (I : Int) + 1 = ((I + 1 : Nat) : Int) := by omega
      have eJ1 : (J : Int) + 1 = ((J + 1 : Nat) : Int) := by omega
      have hIt : I + t = old.length := by omega
      have hJu : J + u = new.length := by omega
      clear eI eJ hI hJ
      have g10 := g.get0 (i := I + 1) (j := J) (v := Pk.Lc old new (I + 1) J) (fun _ => rfl) (fun z => by
        have : ¬ I + 1 ≤ old.length := by omega
        exact Pk.Lc_left (by omega))
      have g01 := g.get0 (i := I) (j := J + 1) (v := Pk.Lc old new I (J + 1)) (fun _ => rfl) (fun z => by
        have : ¬ J + 1 ≤ new.length := by omega
        exact Pk.Lc_right (by omega))
      wtm_at "go"
      refine ⟨.inr ⟨kvs, .inl hk⟩, ?_⟩
      wtm_at "go"
      rw [eI1]
      refine ⟨Nat.le_of_ble_eq_true rfl, fun t1 n_t1 => ?_⟩
      generalize q_t1 : upd _ t1 _ = Ha
      have x_Ha := Pk.lay_ex n_t1 q_t1
      have s_t1 := Pk.lay_at q_t1
      clear q_t1
      wtm_at "go"
      refine ⟨_, DGet.t (k := Pk.kk (I + 1) J) (x_Ha _ _ hk) s_t1, ?_⟩
      rw [g10]
      wtm_at "go"
      refine ⟨.inr ⟨kvs, .inl (x_Ha _ _ hk)⟩, ?_⟩
      wtm_at "go"
      rw [eJ1]
      refine ⟨Nat.le_of_ble_eq_true rfl, fun t2 n_t2 => ?_⟩
      generalize q_t2 : upd _ t2 _ = Hb
      have x_Hb := Pk.lay_ex n_t2 q_t2
      have s_t2 := Pk.lay_at q_t2
      clear q_t2
      wtm_at "go"
      refine ⟨_, DGet.t (k := Pk.kk I (J + 1)) (x_Hb _ _ (x_Ha _ _ hk)) s_t2, ?_⟩
      rw [g01]
      wtm_at "go"
      have em : (if ((Pk.Lc old new I (J + 1) : Nat) : Int) > ((Pk.Lc old new (I + 1) J : Nat) : Int) then ((Pk.Lc old new I (J + 1) : Nat) : Int) else ((Pk.Lc old new (I + 1) J : Nat) : Int)) = ((max (Pk.Lc old new (I + 1) J) (Pk.Lc old new I (J + 1)) : Nat) : Int) := by
        split <;> omega
      rw [em]
      generalize hM : max (Pk.Lc old new (I + 1) J) (Pk.Lc old new I (J + 1)) = M
      refine ⟨Nat.le_of_ble_eq_true rfl, fun t3 n_t3 => ?_⟩
      generalize q_t3 : upd _ t3 _ = Hc
      have x_Hc := Pk.lay_ex n_t3 q_t3
      have s_t3 := Pk.lay_at q_t3
      clear q_t3
      have kc : Hc p = some (.dT kvs) := x_Hc _ _ (x_Hb _ _ (x_Ha _ _ hk))
      have ec : Pk.Ex H Hc := e2.trans (x_Ha.trans (x_Hb.trans x_Hc))
      have szk : kvs.length < 10000000 := by
        have z : t * (new.length + 1) ≤ 1000 * 1001 := Nat.mul_le_mul (by omega) (by omega)
        omega
      have szl : kvs.length < sizeLine := by
        rw [sizeLine_eq]
        omega
      refine ⟨p, _, rfl, DPut.t (k := Pk.kk I J) kc s_t3 szl, ?_⟩
      have g2 := g.put I J M
      have lk2 := length_putK kvs (Pk.kk I J) (V.int (M : Nat))
      generalize putK kvs (Pk.kk I J) (V.int (M : Nat)) = kvs2 at g2 lk2 ⊢
      generalize q_Hd : upd _ p _ = Hd
      have s_Hd := Pk.lay_at q_Hd
      have m_Hd := Pk.lay_mut q_Hd
      clear q_Hd
      have ed : Pk.Ex H Hd := ec.mut2 hp m_Hd
      have hAd := ed.seqL hA
      have hBd := ed.seqL hB
      have gfin : ∀ (b : Bool), (b = true → I < old.length ∧ J < new.length ∧ old[I]? = new[J]?) → (b = false → ¬ (I < old.length ∧ J < new.length ∧ old[I]? = new[J]?)) → (if b = true then max M (1 + Pk.Lc old new (I + 1) (J + 1)) else M) = Pk.Lc old new I J := by
        intro b hb1 hb2
        by_cases c : I < old.length ∧ J < new.length
        · have st := Pk.Lc_step (xs := old) (ys := new) c.1 c.2
          cases b
          · have nb := hb2 rfl
            have : ¬ old[I] = new[J] := fun z => nb ⟨c.1, c.2, by rw [List.getElem?_eq_getElem c.1, List.getElem?_eq_getElem c.2, z]⟩
            rw [if_neg this] at st
            rw [if_neg Bool.false_ne_true]
            omega
          · have yb := (hb1 rfl).2.2
            rw [List.getElem?_eq_getElem c.1, List.getElem?_eq_getElem c.2] at yb
            rw [if_pos (Option.some.inj yb)] at st
            rw [if_pos rfl]
            omega
        · cases b
          · rw [if_neg Bool.false_ne_true, ← hM]
            by_cases d : I < old.length
            · have : new.length ≤ J := by omega
              rw [Pk.Lc_right (i := I + 1) this, Pk.Lc_right (i := I) (j := J + 1) (by omega), Pk.Lc_right (i := I) this]
              rfl
            · have : old.length ≤ I := by omega
              rw [Pk.Lc_left (i := I + 1) (j := J) (by omega), Pk.Lc_left (i := I) (j := J + 1) this, Pk.Lc_left (i := I) (j := J) this]
              rfl
          · have z := hb1 rfl
            exact absurd ⟨z.1, z.2.1⟩ c
      have done : ∀ (He : Hp) (kvs3 : List (List Key × V)) (f : Nat → Nat → Nat), Pk.Ex H He → He p = some (.dT kvs3) → kvs3.length ≤ kvs2.length → Pk.Grid kvs3 (fun i' j' => (i' = I ∧ j' = J) ∨ (i' ≤ old.length ∧ j' ≤ new.length ∧ (old.length + 1 - t ≤ i' ∨ (i' = I ∧ new.length + 1 - u ≤ j')))) f →
          f I J = Pk.Lc old new I J → (∀ i j, ¬ (i = I ∧ j = J) → f i j = Pk.Lc old new i j) →
          (Pk.Ex H He ∧ (∃ v2 : Option V, [some (V.ref a), some (V.ref b), some (V.ref p), some (V.int (I : Int)), some (V.int (J : Int))] = [some (.ref a), some (.ref b), some (.ref p), some (.int (I : Int)), v2]) ∧ ∃ kvs, He p = some (.dT kvs) ∧ kvs.length ≤ t * (new.length + 1) + (u + 1) ∧ Pk.Grid kvs (fun i j => i ≤ old.length ∧ j ≤ new.length ∧ (old.length + 1 - t ≤ i ∨ (i = I ∧ new.length + 1 - (u + 1) ≤ j))) (Pk.Lc old new)) := by
        intro He kvs3 f ee hk3 lk3 g3 f1 f2
        refine ⟨ee, ⟨_, rfl⟩, kvs3, hk3, by omega, g3.same (fun i j => by omega) fun i j _ => ?_⟩
        by_cases d : i = I ∧ j = J
        · rw [d.1, d.2, f1]
        · exact f2 i j d
      wtm_at "go"
      rw [List.length_map]
      refine Pk.rd_dec (fun c1 => ?_) (fun c1 => ?_)
      · wtm_at "go"
        rw [List.length_map]
        refine Pk.rd_dec (fun c2 => ?_) (fun c2 => ?_)
        · have hI2 : I < old.length := by omega
          have hJ2 : J < new.length := by omega
          wtm_at "go"
          refine Pk.rd_ixL hAd (Pk.at_mapN hI2) ?_
          wtm_at "go"
          refine Pk.rd_ixL hBd (Pk.at_mapN hJ2) ?_
          wtm_at "go"
          refine Pk.rd_dec (fun c3 => ?_) (fun c3 => ?_)
          · wtm_at "go"
            refine ⟨Nat.le_of_ble_eq_true rfl, fun t4 n_t4 => ?_⟩
            generalize q_t4 : upd _ t4 _ = He
            have x_He := Pk.lay_ex n_t4 q_t4
            have s_t4 := Pk.lay_at q_t4
            clear q_t4
            have w1 : valV kvs2 (Pk.kk I J) = some (.int (M : Nat)) := (g2.yes I J (.inl ⟨rfl, rfl⟩)).trans (by rw [if_pos ⟨rfl, rfl⟩])
            have w2 : valV kvs2 (Pk.kk (I + 1) (J + 1)) = some (.int (Pk.Lc old new (I + 1) (J + 1) : Nat)) := (g2.yes (I + 1) (J + 1) (.inr (by omega))).trans (by rw [if_neg (by omega)])
            refine ⟨p, _, rfl, Pk.dgetT (ks := Pk.kk I J) (x_He _ _ s_Hd) s_t4 w1, ?_⟩
            wtm_at "go"
            rw [eI1, eJ1]
            refine ⟨Nat.le_of_ble_eq_true rfl, fun t5 n_t5 => ?_⟩
            generalize q_t5 : upd _ t5 _ = Hf
            have x_Hf := Pk.lay_ex n_t5 q_t5
            have s_t5 := Pk.lay_at q_t5
            clear q_t5
            refine ⟨p, _, rfl, Pk.dgetT (ks := Pk.kk (I + 1) (J + 1)) (x_Hf _ _ (x_He _ _ s_Hd)) s_t5 w2, ?_⟩
            wtm_at "go"
            have em2 : (if 1 + ((Pk.Lc old new (I + 1) (J + 1) : Nat) : Int) > ((M : Nat) : Int) then 1 + ((Pk.Lc old new (I + 1) (J + 1) : Nat) : Int) else ((M : Nat) : Int)) = ((max M (1 + Pk.Lc old new (I + 1) (J + 1)) : Nat) : Int) := by
              split <;> omega
            rw [em2]
            refine ⟨Nat.le_of_ble_eq_true rfl, fun t6 n_t6 => ?_⟩
            generalize q_t6 : upd _ t6 _ = Hg
            have x_Hg := Pk.lay_ex n_t6 q_t6
            have s_t6 := Pk.lay_at q_t6
            clear q_t6
            have eg : Pk.Ex H Hg := ed.trans (x_He.trans (x_Hf.trans x_Hg))
            refine ⟨p, _, rfl, DPut.t (k := Pk.kk I J) (x_Hg _ _ (x_Hf _ _ (x_He _ _ s_Hd))) s_t6 (by rw [sizeLine_eq]; omega), ?_⟩
            have g3 := g2.put I J (max M (1 + Pk.Lc old new (I + 1) (J + 1)))
            have lk3 : (putK kvs2 (Pk.kk I J) (V.int (max M (1 + Pk.Lc old new (I + 1) (J + 1)) : Nat))).length ≤ kvs2.length := by
              unfold putK
              rw [if_pos (by rw [valV_any, w1]; rfl), List.length_map]
              exact Nat.le_refl _
            generalize putK kvs2 (Pk.kk I J) (V.int (max M (1 + Pk.Lc old new (I + 1) (J + 1)) : Nat)) = kvs3 at g3 lk3 ⊢
            generalize q_Hh : upd _ p _ = Hh
            have s_Hh := Pk.lay_at q_Hh
            have m_Hh := Pk.lay_mut q_Hh
            clear q_Hh
            have eh : Pk.Ex H Hh := eg.mut2 hp m_Hh
            wtm_at "go"
            have z := gfin true (fun _ => ⟨hI2, hJ2, by rw [List.getElem?_eq_getElem hI2, List.getElem?_eq_getElem hJ2, c3]⟩) (fun z => by cases z)
            rw [if_pos rfl] at z
            refine done Hh kvs3 _ eh s_Hh lk3 (g3.same (fun i j => by omega) fun i j _ => rfl) ((if_pos ⟨rfl, rfl⟩).trans z) fun i j h => ?_
            rw [if_neg h, if_neg h]
          · wtm_at "go"
            have z := gfin false (fun z => by cases z) (fun _ w => c3 (by
              have y := w.2.2
              rw [List.getElem?_eq_getElem hI2, List.getElem?_eq_getElem hJ2] at y
              exact Option.some.inj y))
            exact done Hd kvs2 _ ed s_Hd (Nat.le_refl _) g2 ((if_pos ⟨rfl, rfl⟩).trans z) fun i j h => if_neg h
        · wtm_at "go"
          have z := gfin false (fun z => by cases z) (fun _ w => c2 (by omega))
          exact done Hd kvs2 _ ed s_Hd (Nat.le_refl _) g2 ((if_pos ⟨rfl, rfl⟩).trans z) fun i j h => if_neg h
      · wtm_at "go"
        have z := gfin false (fun z => by cases z) (fun _ w => c1 (by omega))
        exact done Hd kvs2 _ ed s_Hd (Nat.le_refl _) g2 ((if_pos ⟨rfl, rfl⟩).trans z) fun i j h => if_neg h
    · rintro σ H2 ⟨e2, ⟨v2, rfl⟩, kvs, hk, lk, g⟩
      wtm_at "go"
      refine ⟨e2, ⟨_, _, rfl⟩, kvs, hk, ?_, g.same (fun i j => by omega) fun i j _ => rfl⟩
      rw [Nat.add_mul]
      omega
  · rintro σ H1 ⟨e1, ⟨v1, v2, rfl⟩, kvs, hk, lk, g⟩
    wtm_at "go"
    exact q p kvs H1 e1 hk fun i j hi hj => g.yes i j ⟨by omega, hi, hj⟩
end
end PkA
namespace PkA
open PySem PySem.Spec PyProof.Rows L2
theorem sc_law_first : FnScope ["old", "new", "found", "rows", "left", "right", "k", "i", "j", "early"] ["old", "new", "found"] (defScope s_law_first) := ⟨rfl, rfl, rfl, by decide +kernel, rfl, by decide +kernel, by decide +kernel⟩
/-- none of the pairs could be an earlier one with as many behind it -/
def sp_law_first (K : PySem.W.Frag) : Sp := fun vs H Q _ => ∃ (a b p : Addr) (old new : List Str) (ts : List Addr) (fs : List (Nat × Nat)), vs = [.ref a, .ref b, .ref p] ∧
  SqL K H a (old.map V.str) ∧ SqL K H b (new.map V.str) ∧ old.length ≤ 1000 ∧ new.length ≤ 1000 ∧ H p = some (.lst (ts.map V.ref)) ∧ Pk.Prs H ts fs ∧ Pk.Kept old new 0 0 fs ∧ ∀ H', Pk.Ex H H' → Q (.bl true) H'
theorem sp_law_first_len {K : PySem.W.Frag} {vs : List V} {H : Hp} {Q : VK} {E : XK} (h : sp_law_first K vs H Q E) : vs.length = 3 := by
  obtain ⟨_, _, _, _, _, _, _, rfl, _⟩ := h
  rfl
section
variable {P : Program} {w : World} {K : PySem.W.Frag} {mg : Str → Option Value} {base : Heap}
theorem ok_law_first (T : Txt K mg) : Pk.Ok P w K mg base CX0 2 (He.fAd K ("_law_first", none)) ["old", "new", "found"] (sp_law_first K) := by
  obtain ⟨fd, F⟩ := T.F_law_first
  obtain ⟨fd_law_behind, G_law_behind, B_law_behind⟩ := (ok_law_behind (P := P) (w := w) (base := base) T).ex
  refine ⟨fd, F.ok sc_law_first ?len ?body, F.bindsN fun _ _ _ _ _ _ us hl => match us, hl with | [_, _, _], _ => rfl⟩
  case len => exact fun vs H Q E h => sp_law_first_len h
  intro cdv A outer s H vs Q E hr h
  have hu := hu_of hr
  have hu64 := hr.units
  have hu65 := Pk.units65 hr
  refine ⟨_, PSs.nox ((pss_cons (ps_set (i := 3) sc_law_first.nd rfl (Or.inl rfl) (pe_call G_law_behind (hr.mono (by decide)) rfl T.g_law_behind T.k_law_behind B_law_behind .nil pass0 (pa_cons (pv 0) (pa_cons (pv 1) pa_nil))))
      (pss_cons (ps_set (i := 4) sc_law_first.nd rfl (Or.inl rfl) pe_int)
      (pss_cons (ps_set (i := 5) sc_law_first.nd rfl (Or.inl rfl) pe_int)
      (pss_cons (ps_for PassesOwn.never rfl (pi_range1 rfl T.b_range (pa_cons (pe_callB (Pk.lenK K) (by rfl) T.b_len Pk.bt_len (pa_cons (pv 2) pa_nil)) pa_nil)) (pg_name (i := 6) sc_law_first.nd rfl (Or.inl rfl)) (pss_cons (ps_for PassesOwn.never rfl (pi_range2 rfl T.b_range (pa_cons (pv 4) (pa_cons (pe_op op_add (pe_ix (Pk.ixT K) (pe_ix (Pk.ixL K) (pv 2) (pv 6) (fun _ _ => rfl)) pe_int (fun _ _ => rfl)) pe_int) pa_nil))) (pg_name (i := 7) sc_law_first.nd rfl (Or.inl rfl)) (pss_one (ps_for PassesOwn.never rfl (pi_range2 rfl T.b_range (pa_cons (pv 5) (pa_cons (pe_callB (Pk.lenK K) (by rfl) T.b_len Pk.bt_len (pa_cons (pv 1) pa_nil)) pa_nil))) (pg_name (i := 8) sc_law_first.nd rfl (Or.inl rfl)) (pss_cons (ps_set (i := 9) sc_law_first.nd rfl (Or.inl rfl) (pe_or (pe_cmpR op_lt (pv 7) (pe_ix (Pk.ixT K) (pe_ix (Pk.ixL K) (pv 2) (pv 6) (fun _ _ => rfl)) pe_int (fun _ _ => rfl)) (nomark _)) (pe_one (pe_cmpR op_lt (pv 8) (pe_ix (Pk.ixT K) (pe_ix (Pk.ixL K) (pv 2) (pv 6) (fun _ _ => rfl)) pe_int (fun _ _ => rfl)) (nomark _)))))
      (pss_one (ps_if (PW.pt (pw_and (pt_val (pv 9)) (pw_and (pt_cmpR op_eq (pe_ix (Pk.ixL K) (pv 0) (pv 7) (fun _ _ => rfl)) (pe_ix (Pk.ixL K) (pv 1) (pv 8) (fun _ _ => rfl)) (nomark _)) (pw_and1 (pt_cmpR op_ge (pe_dget hu (pv 3) (pe_tup (pa_cons (pe_op op_add (pv 7) pe_int) (pa_cons (pe_op op_add (pv 8) pe_int) pa_nil))) (fun _ _ => rfl)) (pe_op op_sub (pe_op op_sub (pe_callB (Pk.lenK K) (by rfl) T.b_len Pk.bt_len (pa_cons (pv 2) pa_nil)) (pv 6)) pe_int) (nomark _)))))) (pss_one (ps_ret pe_bl)) pss_nil))))))
      (pss_cons (ps_set (i := 4) sc_law_first.nd rfl (Or.inl rfl) (pe_op op_add (pe_ix (Pk.ixT K) (pe_ix (Pk.ixL K) (pv 2) (pv 6) (fun _ _ => rfl)) pe_int (fun _ _ => rfl)) pe_int))
      (pss_one (ps_set (i := 5) sc_law_first.nd rfl (Or.inl rfl) (pe_op op_add (pe_ix (Pk.ixT K) (pe_ix (Pk.ixL K) (pv 2) (pv 6) (fun _ _ => rfl)) pe_int (fun _ _ => rfl)) pe_int))))))
      (pss_one (ps_ret pe_bl))))))), ?_⟩
  obtain ⟨a, b, p, old, new, ts, fs, rfl, hA, hB, lA, lB, hp, prs, kp, q⟩ := h
  have lfs : fs.length ≤ 1000 := by
    rw [kp.length]
    obtain ⟨s, s1, s2, s3⟩ := Pk.lcs_ex (old.drop 0) (new.drop 0)
    have z := s1.length_le
    unfold Pk.Lc
    rw [← s3]
    rw [List.length_drop] at z
    omega
  wtm_at "go"
  refine ⟨a, b, old, new, rfl, hA, hB, lA, lB, fun rows kvs H1 e1 hrows hv => ?_⟩
  have hp1 := e1 _ _ hp
  wtm_at "go"
  rw [List.length_map, prs.len]
  refine ⟨by omega, by omega, for_range (lo := 0) (n := ((fs.length : Int)).toNat) (fun k σ H' => Pk.Ex H1 H' ∧ ∃ (l r : Nat) (v1 v2 v3 v4 : Option V), σ = [some (.ref a), some (.ref b), some (.ref p), some (.ref rows), some (.int (l : Int)), some (.int (r : Int)), v1, v2, v3, v4] ∧ (k = 0 → l = 0 ∧ r = 0) ∧ (∀ w, 0 < k → fs[k - 1]? = some w → l = w.1 + 1 ∧ r = w.2 + 1)) ?_ ?_ ?_⟩
  · exact ⟨Pk.Ex.refl _, 0, 0, _, _, _, _, rfl, fun _ => ⟨rfl, rfl⟩, fun w h => absurd h (by omega)⟩
  · rintro k σ H2 hk ⟨e2, l, r, v1, v2, v3, v4, rfl, k0, k1⟩
    have hk2 : k < fs.length := by omega
    have e0 : (0 : Int) + (k : Int) = (k : Int) := by omega
    rw [e0]
    have hp2 := e2 _ _ hp1
    have prs2 := prs.ex (e1.trans e2)
    generalize hw : fs[k] = w
    have hwk : fs[k]? = some w := by rw [List.getElem?_eq_getElem hk2, hw]
    obtain ⟨wi, wj⟩ := w
    obtain ⟨t, ht, hT⟩ := prs2.at_ k wi wj hwk
    have gk : atI (ts.map V.ref) (k : Int) = some (.ref t) := Pk.at_nat (by rw [List.getElem?_map, ht]; rfl)
    obtain ⟨l', r', nx, lc, _, _, d0, d1⟩ := kp.drop hwk
    have ll : l = l' ∧ r = r' := by
      by_cases c : k = 0
      · have x := k0 c
        have y := d0 c
        omega
      · have c2 : 0 < k := by omega
        have hk1 : k - 1 < fs.length := by omega
        have x := k1 _ c2 (List.getElem?_eq_getElem hk1)
        have y := d1 _ c2 (List.getElem?_eq_getElem hk1)
        omega
    obtain ⟨rfl, rfl⟩ := ll
    have hit := nx.1
    have hwi : wi < old.length := hit.2.2.1
    have hwj : wj < new.length := hit.2.2.2.1
    have hlw : l ≤ wi := hit.1
    have hrw : r ≤ wj := hit.2.1
    wtm_at "go"
    refine Pk.rd_ixL (SqL.of hp2) gk ?_
    wtm_at "go"
    refine Pk.rd_ixT (SqT.of hT) (Pk.at_nat (k := 0) rfl) ?_
    wtm_at "go"
    refine ⟨⟨by omega, by omega, by omega, by omega⟩, for_range (lo := (l : Int)) (n := ((wi : Int) + 1 - (l : Int)).toNat) (fun x σ H' => Pk.Ex H2 H' ∧ ∃ (v2 v3 v4 : Option V), σ = [some (.ref a), some (.ref b), some (.ref p), some (.ref rows), some (.int (l : Int)), some (.int (r : Int)), some (.int (k : Int)), v2, v3, v4]) ?_ ?_ ?_⟩
    · exact ⟨Pk.Ex.refl _, _, _, _, rfl⟩
    · rintro x σ H3 hx ⟨e3, v2, v3, v4, rfl⟩
      have eI : (l : Int) + (x : Int) = ((l + x : Nat) : Int) := by omega
      rw [eI]
      have hIw : l + x ≤ wi := by omega
      generalize hI : l + x = I at hIw
      have hlI : l ≤ I := by omega
      have hBn := (e1.trans (e2.trans e3)).seqL hB
      wtm_at "go"
      rw [List.length_map]
      refine ⟨⟨by omega, by omega, by omega, by omega⟩, for_range (lo := (r : Int)) (n := ((new.length : Int) - (r : Int)).toNat) (fun y σ H' => Pk.Ex H3 H' ∧ ∃ (v3 v4 : Option V), σ = [some (.ref a), some (.ref b), some (.ref p), some (.ref rows), some (.int (l : Int)), some (.int (r : Int)), some (.int (k : Int)), some (.int (I : Int)), v3, v4]) ?_ ?_ ?_⟩
      · exact ⟨Pk.Ex.refl _, _, _, rfl⟩
      · rintro y σ H4 hy ⟨e4, v3, v4, rfl⟩
        have eJ : (r : Int) + (y : Int) = ((r + y : Nat) : Int) := by omega
        rw [eJ]
        have hJ2 : r + y < new.length := by omega
        generalize hJ : r + y = J at hJ2
        have hrJ : r ≤ J := by omega
        have hI2 : I < old.length := by omega
        have e14 := e2.trans (e3.trans e4)
        have hA4 := (e1.trans e14).seqL hA
        have hB4 := (e1.trans e14).seqL hB
        have hp4 := e14 _ _ hp1
        have hT4 := (e3.trans e4) _ _ hT
        have hr4 := e14 _ _ hrows
        have eI1 : (I : Int) + 1 = ((I + 1 : Nat) : Int) := by omega
        have eJ1 : (J : Int) + 1 = ((J + 1 : Nat) : Int) := by omega
        have fin : ∀ (H5 : Hp) (v : V), Pk.Ex H4 H5 → (Pk.Ex H3 H5 ∧ ∃ (v3 v4 : Option V), [some (V.ref a), some (V.ref b), some (V.ref p), some (V.ref rows), some (V.int (l : Int)), some (V.int (r : Int)), some (V.int (k : Int)), some (V.int (I : Int)), some (V.int (J : Int)), some v] = [some (.ref a), some (.ref b), some (.ref p), some (.ref rows), some (.int (l : Int)), some (.int (r : Int)), some (.int (k : Int)), some (.int (I : Int)), v3, v4]) := fun H5 v e5 => ⟨e4.trans e5, _, _, rfl⟩
        wtm_at "go"
        refine Pk.rd_ixL (SqL.of hp4) gk ?_
        wtm_at "go"
        refine Pk.rd_ixT (SqT.of hT4) (Pk.at_nat (k := 0) rfl) ?_
        wtm_at "go"
        refine Pk.rd_dec (fun c1 => ?_) (fun c1 => ?_)
        · wtm_at "go"
          refine Pk.rd_ixL hA4 (Pk.at_mapN hI2) ?_
          wtm_at "go"
          refine Pk.rd_ixL hB4 (Pk.at_mapN hJ2) ?_
          wtm_at "go"
          refine Pk.rd_dec (fun c3 => ?_) (fun c3 => ?_)
          · wtm_at "go"
            rw [eI1, eJ1]
            refine ⟨Nat.le_of_ble_eq_true rfl, fun t4 n_t4 => ?_⟩
            generalize q_t4 : upd _ t4 _ = H5
            have x_H5 := Pk.lay_ex n_t4 q_t4
            have s_t4 := Pk.lay_at q_t4
            clear q_t4
            refine ⟨rows, _, rfl, Pk.dgetT (ks := Pk.kk (I + 1) (J + 1)) (x_H5 _ _ hr4) s_t4 (hv (I + 1) (J + 1) (by omega) (by omega)), ?_⟩
            wtm_at "go"
            try refine Pk.rd_rlen K (SqL.of (x_H5 _ _ hp4)) ?_
            rw [List.length_map, prs.len]
            wtm_at "go"
            refine Pk.rd_dec (fun c4 => ?_) (fun c4 => ?_)
            · have lge := Pk.Lc_mono (xs := old) (ys := new) (i := l) (j := r) (k := I) (l := J) hlI hrJ
              have st := Pk.Lc_step (xs := old) (ys := new) hI2 hJ2
              rw [if_pos c3] at st
              have hh : Pk.Hit old new l r I J := ⟨hlI, hrJ, hI2, hJ2, by rw [List.getElem?_eq_getElem hI2, List.getElem?_eq_getElem hJ2, c3], by omega⟩
              have ww := nx.2 I J hh
              simp only at ww
              exact absurd ww (by omega)
            · wtm_at "go"
              exact fin _ _ x_H5
          · wtm_at "go"
            exact fin _ _ (Pk.Ex.refl _)
        · wtm_at "go"
          refine Pk.rd_ixL (SqL.of hp4) gk ?_
          wtm_at "go"
          refine Pk.rd_ixT (SqT.of hT4) (Pk.at_nat (k := 1) rfl) ?_
          wtm_at "go"
          refine Pk.rd_dec (fun c2 => ?_) (fun c2 => ?_)
          · wtm_at "go"
            refine Pk.rd_ixL hA4 (Pk.at_mapN hI2) ?_
            wtm_at "go"
            refine Pk.rd_ixL hB4 (Pk.at_mapN hJ2) ?_
            wtm_at "go"
            refine Pk.rd_dec (fun c3 => ?_) (fun c3 => ?_)
            · wtm_at "go"
              rw [eI1, eJ1]
              refine ⟨Nat.le_of_ble_eq_true rfl, fun t4 n_t4 => ?_⟩
              generalize q_t4 : upd _ t4 _ = H5
              have x_H5 := Pk.lay_ex n_t4 q_t4
              have s_t4 := Pk.lay_at q_t4
              clear q_t4
              refine ⟨rows, _, rfl, Pk.dgetT (ks := Pk.kk (I + 1) (J + 1)) (x_H5 _ _ hr4) s_t4 (hv (I + 1) (J + 1) (by omega) (by omega)), ?_⟩
              wtm_at "go"
              try refine Pk.rd_rlen K (SqL.of (x_H5 _ _ hp4)) ?_
              rw [List.length_map, prs.len]
              wtm_at "go"
              refine Pk.rd_dec (fun c4 => ?_) (fun c4 => ?_)
              · have lge := Pk.Lc_mono (xs := old) (ys := new) (i := l) (j := r) (k := I) (l := J) hlI hrJ
                have st := Pk.Lc_step (xs := old) (ys := new) hI2 hJ2
                rw [if_pos c3] at st
                have hh : Pk.Hit old new l r I J := ⟨hlI, hrJ, hI2, hJ2, by rw [List.getElem?_eq_getElem hI2, List.getElem?_eq_getElem hJ2, c3], by omega⟩
                have ww := nx.2 I J hh
                simp only at ww
                exact absurd ww (by omega)
              · wtm_at "go"
                exact fin _ _ x_H5
            · wtm_at "go"
              exact fin _ _ (Pk.Ex.refl _)
          · wtm_at "go"
            exact fin _ _ (Pk.Ex.refl _)
      · rintro σ H4 ⟨e4, v3, v4, rfl⟩
        wtm_at "go"
        exact ⟨e3.trans e4, _, _, _, rfl⟩
    · rintro σ H3 ⟨e3, v2, v3, v4, rfl⟩
      have hp3 := e3 _ _ hp2
      have hT3 := e3 _ _ hT
      wtm_at "go"
      refine Pk.rd_ixL (SqL.of hp3) gk ?_
      wtm_at "go"
      refine Pk.rd_ixT (SqT.of hT3) (Pk.at_nat (k := 0) rfl) ?_
      wtm_at "go"
      refine Pk.rd_ixL (SqL.of hp3) gk ?_
      wtm_at "go"
      refine Pk.rd_ixT (SqT.of hT3) (Pk.at_nat (k := 1) rfl) ?_
      wtm_at "go"
      refine ⟨e2.trans e3, wi + 1, wj + 1, _, _, _, _, rfl, fun z => absurd z (by omega), fun w _ hw2 => ?_⟩
      have ez : k + 1 - 1 = k := by omega
      rw [ez, hwk] at hw2
      cases hw2
      exact ⟨rfl, rfl⟩
  · rintro σ H2 ⟨e2, l, r, v1, v2, v3, v4, rfl, _, _⟩
    wtm_at "go"
    exact q H2 (e1.trans e2)
end
end PkA
namespace PkA
open PySem PySem.Spec PyProof.Rows L2
theorem sc_law : FnScope ["script", "sizes", "old", "new", "k", "cell", "at", "handed", "found", "last", "pair", "told"] ["script"] (defScope s_law) := ⟨rfl, rfl, rfl, by decide +kernel, rfl, by decide +kernel, by decide +kernel⟩
/-- the law, at every script -/
def sp_law (K : PySem.W.Frag) : Sp := fun vs H Q _ => ∃ (a : Addr) (ns : List Int), vs = [.ref a] ∧ SqL K H a (ns.map V.int) ∧ ∀ H', Q (.bl true) H'
theorem sp_law_len {K : PySem.W.Frag} {vs : List V} {H : Hp} {Q : VK} {E : XK} (h : sp_law K vs H Q E) : vs.length = 1 := by
  obtain ⟨_, _, rfl, _⟩ := h
  rfl
section
variable {P : Program} {w : World} {K : PySem.W.Frag} {mg : Str → Option Value} {base : Heap}
theorem ok_law (T : Txt K mg) {fd : FuncData} (F : FunD K "law" "law" (defArgs s_law) (defBody s_law) (defScope s_law) [] [] (He.fAd K ("law", none)) fd) : FnOk P w K mg base CX0 3 (He.fAd K ("law", none)) fd ["script"] (sp_law K) := by
  obtain ⟨fd_law_texts, G_law_texts, B_law_texts⟩ := (ok_law_texts (P := P) (w := w) (base := base) T).ex
  obtain ⟨fd_kept, G_kept, B_kept⟩ := (ok_kept (P := P) (w := w) (base := base) T).ex
  obtain ⟨fd_law_first, G_law_first, B_law_first⟩ := (ok_law_first (P := P) (w := w) (base := base) T).ex
  obtain ⟨fd_law_cell_at, G_law_cell_at, B_law_cell_at⟩ := (ok_law_cell_at (P := P) (w := w) (base := base) T).ex
  obtain ⟨fd_law_pairs_form, G_law_pairs_form, B_law_pairs_form⟩ := (ok_law_pairs_form (P := P) (w := w) (base := base) T).ex
  obtain ⟨fd_law_most, G_law_most, B_law_most⟩ := (ok_law_most (P := P) (w := w) (base := base) T).ex
  obtain ⟨fd_law_text, G_law_text, B_law_text⟩ := (ok_law_text (P := P) (w := w) (base := base) T).ex
  refine F.ok sc_law ?len ?body
  case len => exact fun vs H Q E h => sp_law_len h
  intro cdv A outer s H vs Q E hr h
  have hu := hu_of hr
  have hu64 := hr.units
  have hu65 := Pk.units65 hr
  refine ⟨_, PSs.nox ((pss_cons (ps_set (i := 1) sc_law.nd rfl (Or.inl rfl) (pe_lst (pa_cons (pe_op op_mod (pe_call G_law_cell_at (hr.mono (by decide)) rfl T.g_law_cell_at T.k_law_cell_at B_law_cell_at .nil pass0 (pa_cons (pv 0) (pa_cons pe_int pa_nil))) pe_int) (pa_cons (pe_op op_mod (pe_call G_law_cell_at (hr.mono (by decide)) rfl T.g_law_cell_at T.k_law_cell_at B_law_cell_at .nil pass0 (pa_cons (pv 0) (pa_cons pe_int pa_nil))) pe_int) pa_nil))))
      (Evl.pss_cut (ps_if (pt_cmpR op_eq (pe_op op_mod (pe_op op_fdiv (pe_call G_law_cell_at (hr.mono (by decide)) rfl T.g_law_cell_at T.k_law_cell_at B_law_cell_at .nil pass0 (pa_cons (pv 0) (pa_cons pe_int pa_nil))) pe_int) pe_int) pe_int (nomark _)) (pss_one (ps_set (i := 1) sc_law.nd rfl (Or.inl rfl) (pe_lst (pa_cons (pe_op op_mod (pe_op op_fdiv (pe_call G_law_cell_at (hr.mono (by decide)) rfl T.g_law_cell_at T.k_law_cell_at B_law_cell_at .nil pass0 (pa_cons (pv 0) (pa_cons pe_int pa_nil))) pe_int) pe_int) (pa_cons (pe_op op_mod (pe_op op_fdiv (pe_call G_law_cell_at (hr.mono (by decide)) rfl T.g_law_cell_at T.k_law_cell_at B_law_cell_at .nil pass0 (pa_cons (pv 0) (pa_cons pe_int pa_nil))) pe_int) pe_int) pa_nil))))) pss_nil)
      (Evl.pss_cut (ps_if (pt_cmpR op_eq (pe_op op_mod (pe_op op_fdiv (pe_call G_law_cell_at (hr.mono (by decide)) rfl T.g_law_cell_at T.k_law_cell_at B_law_cell_at .nil pass0 (pa_cons (pv 0) (pa_cons pe_int pa_nil))) pe_int) pe_int) pe_int (nomark _)) (pss_one (ps_set (i := 1) sc_law.nd rfl (Or.inl rfl) (pe_lst (pa_cons pe_int (pa_cons pe_int pa_nil))))) pss_nil)
      (pss_cons (ps_set (i := 2) sc_law.nd rfl (Or.inl rfl) (pe_call G_law_texts (hr.mono (by decide)) rfl T.g_law_texts T.k_law_texts B_law_texts .nil pass0 (pa_cons (pv 0) (pa_cons pe_int (pa_cons (pe_ix (Pk.ixL K) (pv 1) pe_int (fun _ _ => rfl)) pa_nil)))))
      (pss_cons (ps_set (i := 3) sc_law.nd rfl (Or.inl rfl) (pe_call G_law_texts (hr.mono (by decide)) rfl T.g_law_texts T.k_law_texts B_law_texts .nil pass0 (pa_cons (pv 0) (pa_cons pe_int (pa_cons (pe_ix (Pk.ixL K) (pv 1) pe_int (fun _ _ => rfl)) pa_nil)))))
      (Evl.pss_cut (ps_if (pt_cmpR op_eq (pe_op op_mod (pe_call G_law_cell_at (hr.mono (by decide)) rfl T.g_law_cell_at T.k_law_cell_at B_law_cell_at .nil pass0 (pa_cons (pv 0) (pa_cons pe_int pa_nil))) pe_int) pe_int (nomark _)) (pss_cons (ps_set (i := 3) sc_law.nd rfl (Or.inl rfl) (pe_callTy (Pk.listOf K) (by rfl) T.b_list Pk.bt_list (pa_cons (pv 2) pa_nil)))
      (pss_one (ps_for PassesOwn.never rfl (pi_range1 rfl T.b_range (pa_cons (pe_op op_mul (pe_op op_mod (pe_call G_law_cell_at (hr.mono (by decide)) rfl T.g_law_cell_at T.k_law_cell_at B_law_cell_at .nil pass0 (pa_cons (pv 0) (pa_cons pe_int pa_nil))) pe_int) (pe_callTy call_int1 (by rfl) T.b_int Pk.bt_int (pa_cons (pe_cmpR op_lt (pe_callB (Pk.lenK K) (by rfl) T.b_len Pk.bt_len (pa_cons (pv 2) pa_nil)) pe_int (nomark _)) pa_nil))) pa_nil)) (pg_name (i := 4) sc_law.nd rfl (Or.inl rfl)) (pss_cons (ps_set (i := 5) sc_law.nd rfl (Or.inl rfl) (pe_call G_law_cell_at (hr.mono (by decide)) rfl T.g_law_cell_at T.k_law_cell_at B_law_cell_at .nil pass0 (pa_cons (pv 0) (pa_cons (pe_op op_add pe_int (pv 4)) pa_nil))))
      (pss_cons (ps_set (i := 6) sc_law.nd rfl (Or.inl rfl) (pe_op op_mod (pv 5) (pe_op op_add (pe_callB (Pk.lenK K) (by rfl) T.b_len Pk.bt_len (pa_cons (pv 3) pa_nil)) pe_int)))
      (pss_one (ps_set (i := 3) sc_law.nd rfl (Or.inl rfl) (pe_op op_cat (pe_op op_cat (pe_slice (Pk.slL K) (pv 3) po_none (po_some (pv 6))) (pe_ix (Pk.ixL K) (pe_lst (pa_cons (pe_lst pa_nil) (pa_cons (pe_lst (pa_cons (pe_call G_law_text (hr.mono (by decide)) rfl T.g_law_text T.k_law_text B_law_text .nil pass0 (pa_cons (pe_op op_fdiv (pv 5) pe_int) pa_nil)) pa_nil)) pa_nil))) (pe_op op_mod (pe_op op_fdiv (pv 5) pe_int) pe_int) (fun _ _ => rfl))) (pe_slice (Pk.slL K) (pv 3) (po_some (pe_op op_add (pv 6) (pe_op op_mod (pe_op op_fdiv (pv 5) pe_int) pe_int))) po_none))))))))) pss_nil)
      (pss_cons (ps_set (i := 7) sc_law.nd rfl (Or.inl rfl) (pe_lst (pa_cons (pe_callTy (Pk.listOf K) (by rfl) T.b_list Pk.bt_list (pa_cons (pv 2) pa_nil)) (pa_cons (pe_callTy (Pk.listOf K) (by rfl) T.b_list Pk.bt_list (pa_cons (pv 3) pa_nil)) pa_nil))))
      (pss_cons (ps_set (i := 8) sc_law.nd rfl (Or.inl rfl) (pe_call G_kept (hr.mono (by decide)) rfl T.g_kept T.k_kept B_kept .nil pass0 (pa_cons (pe_ix (Pk.ixL K) (pv 7) pe_int (fun _ _ => rfl)) (pa_cons (pe_ix (Pk.ixL K) (pv 7) pe_int (fun _ _ => rfl)) pa_nil))))
      (pss_cons (ps_if (PW.pt (pw_or (pt_cmpR (Pk.neDK K hu64) (pv 7) (pe_lst (pa_cons (pv 2) (pa_cons (pv 3) pa_nil))) (nomark _)) (pw_or (pt_not (pt_val (pe_call G_law_pairs_form (hr.mono (by decide)) rfl T.g_law_pairs_form T.k_law_pairs_form B_law_pairs_form .nil pass0 (pa_cons (pv 8) pa_nil)))) (pw_or1 (pt_cmpR op_ne (pe_callB (Pk.lenK K) (by rfl) T.b_len Pk.bt_len (pa_cons (pv 8) pa_nil)) (pe_call G_law_most (hr.mono (by decide)) rfl T.g_law_most T.k_law_most B_law_most .nil pass0 (pa_cons (pv 2) (pa_cons (pv 3) pa_nil))) (nomark _)))))) (pss_one (ps_ret pe_bl)) pss_nil)
      (pss_cons (ps_set (i := 9) sc_law.nd rfl (Or.inl rfl) (pe_tup (pa_cons (pe_un un_neg pe_int) (pa_cons (pe_un un_neg pe_int) pa_nil))))
      (pss_cons (ps_for PassesOwn.never rfl (Pk.piL K (pv 8)) (pg_name (i := 10) sc_law.nd rfl (Or.inl rfl)) (pss_cons (ps_if (PW.pt (pw_or (pt_not (pt_chain op_lt op_lt (pe_ix (Pk.ixT K) (pv 9) pe_int (fun _ _ => rfl)) (pe_ix (Pk.ixT K) (pv 10) pe_int (fun _ _ => rfl)) (pe_callB (Pk.lenK K) (by rfl) T.b_len Pk.bt_len (pa_cons (pv 2) pa_nil)))) (pw_or (pt_not (pt_chain op_lt op_lt (pe_ix (Pk.ixT K) (pv 9) pe_int (fun _ _ => rfl)) (pe_ix (Pk.ixT K) (pv 10) pe_int (fun _ _ => rfl)) (pe_callB (Pk.lenK K) (by rfl) T.b_len Pk.bt_len (pa_cons (pv 3) pa_nil)))) (pw_or1 (pt_cmpR op_ne (pe_ix (Pk.ixL K) (pv 2) (pe_ix (Pk.ixT K) (pv 10) pe_int (fun _ _ => rfl)) (fun _ _ => rfl)) (pe_ix (Pk.ixL K) (pv 3) (pe_ix (Pk.ixT K) (pv 10) pe_int (fun _ _ => rfl)) (fun _ _ => rfl)) (nomark _)))))) (pss_one (ps_ret pe_bl)) pss_nil)
      (pss_one (ps_set (i := 9) sc_law.nd rfl (Or.inl rfl) (pv 10)))))
      (pss_cons (ps_set (i := 11) sc_law.nd rfl (Or.inl rfl) (pe_callTy (Pk.listOf K) (by rfl) T.b_list Pk.bt_list (pa_cons (pv 8) pa_nil)))
      (pss_cons (ps_expr (pe_bm PySem.F.plainAttrs_list PySem.F.slot_list_append PySem.F.type_list_append mt_append (pv 8) (pa_cons (pe_tup (pa_cons pe_int (pa_cons pe_int pa_nil))) pa_nil)))
      (pss_one (ps_ret (pe_and (pe_cmpR (Pk.eqDK K hu64) (pe_call G_kept (hr.mono (by decide)) rfl T.g_kept T.k_kept B_kept .nil pass0 (pa_cons (pe_ix (Pk.ixL K) (pv 7) pe_int (fun _ _ => rfl)) (pa_cons (pe_ix (Pk.ixL K) (pv 7) pe_int (fun _ _ => rfl)) pa_nil))) (pv 11) (nomark _)) (pe_one (pe_call G_law_first (hr.mono (by decide)) rfl T.g_law_first T.k_law_first B_law_first .nil pass0 (pa_cons (pv 2) (pa_cons (pv 3) (pa_cons (pv 11) pa_nil)))))))))))))))))))))), ?_⟩
  obtain ⟨a, ns, rfl, hS, q⟩ := h
  wtm_at "go"
  refine ⟨a, ns, _, rfl, hS, by decide, fun c0 => ?_⟩
  wtm_at "go"
  refine ⟨a, ns, _, rfl, hS, by decide, fun c1 => ?_⟩
  wtm_at "go"
  have m0 := Int.emod_nonneg c0 (show (10 : Int) ≠ 0 by decide)
  have m1 := Int.emod_lt_of_pos c0 (show (0 : Int) < 10 by decide)
  have m2 := Int.emod_nonneg c1 (show (10 : Int) ≠ 0 by decide)
  have m3 := Int.emod_lt_of_pos c1 (show (0 : Int) < 10 by decide)
  refine ⟨Nat.le_of_ble_eq_true rfl, fun p0 n_p0 => ?_⟩
  generalize q_p0 : upd _ p0 _ = H0
  have x_H0 := Pk.lay_ex n_p0 q_p0
  have s_p0 := Pk.lay_at q_p0
  clear q_p0
  wtm_at "go"
  refine Pk.rd_cut (fun σ H' => Pk.Ex H H' ∧ ∃ (p : Addr) (m n : Int), σ = [some (.ref a), some (.ref p), none, none, none, none, none, none, none, none, none, none] ∧ H' p = some (.lst [.int m, .int n]) ∧ 0 ≤ m ∧ m ≤ 60 ∧ 0 ≤ n ∧ n ≤ 60) ?_ ?_
  · wtm_at "go"
    refine ⟨a, ns, _, rfl, x_H0.seqL hS, by decide, fun c2 => ?_⟩
    wtm_at "go"
    refine Pk.rd_dec (fun k1 => ?_) (fun k1 => ?_)
    · wtm_at "go"
      refine ⟨a, ns, _, rfl, x_H0.seqL hS, by decide, fun c3 => ?_⟩
      wtm_at "go"
      refine ⟨a, ns, _, rfl, x_H0.seqL hS, by decide, fun c4 => ?_⟩
      wtm_at "go"
      have n0 := Int.emod_nonneg (c3 / 40) (show (41 : Int) ≠ 0 by decide)
      have n1 := Int.emod_lt_of_pos (c3 / 40) (show (0 : Int) < 41 by decide)
      have n2 := Int.emod_nonneg (c4 / 10) (show (41 : Int) ≠ 0 by decide)
      have n3 := Int.emod_lt_of_pos (c4 / 10) (show (0 : Int) < 41 by decide)
      refine ⟨Nat.le_of_ble_eq_true rfl, fun p1 n_p1 => ?_⟩
      generalize q_p1 : upd _ p1 _ = H1
      have x_H1 := Pk.lay_ex n_p1 q_p1
      have s_p1 := Pk.lay_at q_p1
      clear q_p1
      wtm_at "go"
      exact ⟨x_H0.trans x_H1, p1, _, _, rfl, s_p1, n0, by omega, n2, by omega⟩
    · wtm_at "go"
      exact ⟨x_H0, p0, _, _, rfl, s_p0, m0, by omega, m2, by omega⟩
  rintro σ1 H1 ⟨e1, p, m, n, rfl, hp, m0, m1, n0, n1⟩
  refine Pk.rd_cut (fun σ H' => Pk.Ex H H' ∧ ∃ (p : Addr) (m n : Int), σ = [some (.ref a), some (.ref p), none, none, none, none, none, none, none, none, none, none] ∧ H' p = some (.lst [.int m, .int n]) ∧ 0 ≤ m ∧ m ≤ 60 ∧ 0 ≤ n ∧ n ≤ 60) ?_ ?_
  · wtm_at "go"
    refine ⟨a, ns, _, rfl, e1.seqL hS, by decide, fun c2 => ?_⟩
    wtm_at "go"
    refine Pk.rd_dec (fun k1 => ?_) (fun k1 => ?_)
    · wtm_at "go"
      refine ⟨Nat.le_of_ble_eq_true rfl, fun p1 n_p1 => ?_⟩
      generalize q_p1 : upd _ p1 _ = H2
      have x_H2 := Pk.lay_ex n_p1 q_p1
      have s_p1 := Pk.lay_at q_p1
      clear q_p1
      wtm_at "go"
      exact ⟨e1.trans x_H2, p1, _, _, rfl, s_p1, by decide, by decide, by decide, by decide⟩
    · wtm_at "go"
      exact ⟨e1, p, _, _, rfl, hp, m0, m1, n0, n1⟩
  clear m0 m1 n0 n1 hp
  rintro σ2 H2 ⟨e2, p2, m, n, rfl, hp, m0, m1, n0, n1⟩
  wtm_at "go"
  refine Pk.rd_ixL (SqL.of hp) (Pk.at_nat (k := 0) rfl) ?_
  wtm_at "go"
  refine ⟨a, ns, _, _, rfl, e2.seqL hS, by decide, m0, by omega, fun po old H3 npo e3 so lo oo => ?_⟩
  wtm_at "go"
  refine Pk.rd_ixL (SqL.of (e3 _ _ hp)) (Pk.at_nat (k := 1) rfl) ?_
  wtm_at "go"
  refine ⟨a, ns, _, _, rfl, (e2.trans e3).seqL hS, by decide, n0, by omega, fun pn new H4 npn e4 sn ln on => ?_⟩
  wtm_at "go"
  have e24 := (e2.trans e3).trans e4
  have so4 := e4 _ _ so
  have lo' : old.length ≤ 60 := by omega
  refine Pk.rd_cut (fun σ H' => Pk.Ex H4 H' ∧ ∃ (pn : Addr) (new : List Str) (v1 v2 v3 : Option V), σ = [some (.ref a), some (.ref p2), some (.ref po), some (.ref pn), v1, v2, v3, none, none, none, none, none] ∧ H' pn = some (.lst (new.map V.str)) ∧ new.length ≤ 100 ∧ (∀ t ∈ new, Pk.TOk t)) ?_ ?_
  · wtm_at "go"
    refine ⟨a, ns, _, rfl, e24.seqL hS, by decide, fun c2 => ?_⟩
    wtm_at "go"
    refine Pk.rd_dec (fun k1 => ?_) (fun k1 => ?_)
    · wtm_at "go"
      refine Pk.rd_rlist K (SqL.of so4) ?_
      intro q5 n_q5
      generalize q_q5 : upd _ q5 _ = H5
      have x_H5 := Pk.lay_ex n_q5 q_q5
      have s_q5 := Pk.lay_at q_q5
      clear q_q5
      wtm_at "go"
      refine ⟨a, ns, _, rfl, (e24.trans x_H5).seqL hS, by decide, fun c3 => ?_⟩
      wtm_at "go"
      generalize decide (((List.map V.str old).length : Int) < 50) = bb
      refine .inr ⟨bb, rfl, ?_⟩
      have n2 := Int.emod_nonneg c3 (show (5 : Int) ≠ 0 by decide)
      have n3 := Int.emod_lt_of_pos c3 (show (0 : Int) < 5 by decide)
      refine Pk.rd_mul (.inl ⟨by omega, by omega⟩) ?_
      have hg : 0 ≤ c3 % 5 * (if bb = true then 1 else 0) ∧ c3 % 5 * (if bb = true then 1 else 0) ≤ 4 := by
        cases bb
        · simp
        · simp
          omega
      generalize c3 % 5 * (if bb = true then 1 else 0) = j at hg ⊢
      wtm_at "go"
      refine ⟨by omega, by omega, for_range (lo := 0) (n := j.toNat) (fun i σ H' => Pk.Ex H4 H' ∧ ∃ (pn : Addr) (new : List Str) (v1 v2 v3 : Option V), σ = [some (.ref a), some (.ref p2), some (.ref po), some (.ref pn), v1, v2, v3, none, none, none, none, none] ∧ H' pn = some (.lst (new.map V.str)) ∧ new.length ≤ 60 + i ∧ (∀ t ∈ new, Pk.TOk t)) ?_ ?_ ?_⟩
      · exact ⟨x_H5, q5, old, _, _, _, rfl, s_q5, by omega, oo⟩
      · rintro i σ H6 hi ⟨e6, pm, neu, v1, v2, v3, rfl, sm, lm, om⟩
        wtm_at "go"
        refine ⟨a, ns, _, rfl, (e24.trans e6).seqL hS, by omega, fun c4 => ?_⟩
        wtm_at "go"
        rw [List.length_map]
        have o0 := Int.emod_nonneg c4 (show ((neu.length : Int) + 1) ≠ 0 by omega)
        have o1 := Int.emod_lt_of_pos c4 (show (0 : Int) < (neu.length : Int) + 1 by omega)
        generalize c4 % ((neu.length : Int) + 1) = at_ at o0 o1 ⊢
        obtain ⟨k, rfl⟩ := Int.eq_ofNat_of_zero_le o0
        wtm_at "go"
        refine Pk.rd_slL (SqL.of sm) ?_
        rw [Pk.cut_to]
        intro pa n_pa
        generalize q_pa : upd _ pa _ = Ha
        have x_Ha := Pk.lay_ex n_pa q_pa
        have s_pa := Pk.lay_at q_pa
        clear q_pa
        wtm_at "go"
        refine ⟨Nat.le_of_ble_eq_true rfl, fun pb n_pb => ?_⟩
        generalize q_pb : upd _ pb _ = Hb
        have x_Hb := Pk.lay_ex n_pb q_pb
        have s_pb := Pk.lay_at q_pb
        clear q_pb
        wtm_at "go"
        refine ⟨_, rfl, fun st Hc ec ok _ => ?_⟩
        wtm_at "go"
        refine ⟨Nat.le_of_ble_eq_true rfl, fun pd n_pd => ?_⟩
        generalize q_pd : upd _ pd _ = Hd
        have x_Hd := Pk.lay_ex n_pd q_pd
        have s_pd := Pk.lay_at q_pd
        clear q_pd
        wtm_at "go"
        refine ⟨Nat.le_of_ble_eq_true rfl, fun pe n_pe => ?_⟩
        generalize q_pe : upd _ pe _ = He
        have x_He := Pk.lay_ex n_pe q_pe
        have s_pe := Pk.lay_at q_pe
        clear q_pe
        wtm_at "go"
        have w0 := Int.emod_nonneg (c4 / 3) (show (2 : Int) ≠ 0 by decide)
        have w1 := Int.emod_lt_of_pos (c4 / 3) (show (0 : Int) < 2 by decide)
        generalize c4 / 3 % 2 = wh at w0 w1 ⊢
        have pick : ∃ (l : Addr) (ex : List Str), atI [V.ref pb, V.ref pd] wh = some (.ref l) ∧ He l = some (.lst (ex.map V.str)) ∧ ex.length ≤ 1 ∧ ∀ t ∈ ex, Pk.TOk t := by
          have cs : wh = 0 ∨ wh = 1 := by omega
          rcases cs with rfl | rfl
          · exact ⟨pb, [], Pk.at_nat (k := 0) rfl, x_He _ _ (x_Hd _ _ (ec _ _ s_pb)), by decide, fun t ht => absurd ht List.not_mem_nil⟩
          · exact ⟨pd, [st], Pk.at_nat (k := 1) rfl, x_He _ _ s_pd, by show 1 ≤ 1; decide, fun t ht => by rw [List.mem_singleton] at ht; rw [ht]; exact ok⟩
        obtain ⟨l, ex, hat, hl, lx, ox⟩ := pick
        refine Pk.rd_ixL (SqL.of s_pe) hat ?_
        have xae : Pk.Ex Ha He := x_Hb.trans (ec.trans (x_Hd.trans x_He))
        have hpa := xae _ _ s_pa
        have ltk : (neu.take k).length ≤ k := by rw [List.length_take]; omega
        refine Pk.rd_cat hpa hl (Pk.line_le (by rw [List.length_map, List.length_map]; omega)) ?_
        intro pf n_pf
        generalize q_pf : upd _ pf _ = Hf
        have x_Hf := Pk.lay_ex n_pf q_pf
        have s_pf := Pk.lay_at q_pf
        clear q_pf
        wtm_at "go"
        have u0 := Int.emod_nonneg (c4 / 2) (show (2 : Int) ≠ 0 by decide)
        have u1 := Int.emod_lt_of_pos (c4 / 2) (show (0 : Int) < 2 by decide)
        generalize c4 / 2 % 2 = wu at u0 u1 ⊢
        obtain ⟨u, rfl⟩ := Int.eq_ofNat_of_zero_le u0
        have eku : ((k : Nat) : Int) + ((u : Nat) : Int) = ((k + u : Nat) : Int) := by omega
        rw [eku]
        refine Pk.rd_slL (SqL.of (x_Hf _ _ (xae _ _ (x_Ha _ _ sm)))) ?_
        rw [Pk.cut_from]
        intro pg n_pg
        generalize q_pg : upd _ pg _ = Hg
        have x_Hg := Pk.lay_ex n_pg q_pg
        have s_pg := Pk.lay_at q_pg
        clear q_pg
        wtm_at "go"
        have ldr : (neu.drop (k + u)).length = neu.length - (k + u) := List.length_drop
        refine Pk.rd_cat (x_Hg _ _ s_pf) s_pg (Pk.line_le (by rw [List.length_append, List.length_map, List.length_map, List.length_map]; omega)) ?_
        intro ph n_ph
        generalize q_ph : upd _ ph _ = Hh
        have x_Hh := Pk.lay_ex n_ph q_ph
        have s_ph := Pk.lay_at q_ph
        clear q_ph
        wtm_at "go"
        refine ⟨e6.trans (x_Ha.trans (xae.trans (x_Hf.trans (x_Hg.trans x_Hh)))), ph, neu.take k ++ ex ++ neu.drop (k + u), _, _, _, rfl, ?_, ?_, ?_⟩
        · rw [s_ph, List.map_append, List.map_append]
        · rw [List.length_append, List.length_append]
          omega
        · intro t ht
          rcases List.mem_append.mp ht with ht | ht
          · rcases List.mem_append.mp ht with ht | ht
            · exact om t (List.mem_of_mem_take ht)
            · exact ox t ht
          · exact om t (List.mem_of_mem_drop ht)
      · rintro σ H6 ⟨e6, pm, neu, v1, v2, v3, rfl, sm, lm, om⟩
        wtm_at "go"
        exact ⟨e6, pm, neu, _, _, _, rfl, sm, by omega, om⟩
    · wtm_at "go"
      exact ⟨Pk.Ex.refl _, pn, new, _, _, _, rfl, sn, by omega, on⟩
  rintro σ5 H5 ⟨e5, pm, neu, v1, v2, v3, rfl, sm, lm, om⟩
  clear so npn sn on ln
  wtm_at "go"
  have so5 := e5 _ _ so4
  refine Pk.rd_rlist K (SqL.of so5) ?_
  intro pa n_pa
  generalize q_pa : upd _ pa _ = Ha
  have x_Ha := Pk.lay_ex n_pa q_pa
  have s_pa := Pk.lay_at q_pa
  clear q_pa
  wtm_at "go"
  refine Pk.rd_rlist K (SqL.of (x_Ha _ _ sm)) ?_
  intro pb n_pb
  generalize q_pb : upd _ pb _ = Hb
  have x_Hb := Pk.lay_ex n_pb q_pb
  have s_pb := Pk.lay_at q_pb
  clear q_pb
  wtm_at "go"
  refine ⟨Nat.le_of_ble_eq_true rfl, fun pc n_pc => ?_⟩
  generalize q_pc : upd _ pc _ = Hc
  have x_Hc := Pk.lay_ex n_pc q_pc
  have s_pc := Pk.lay_at q_pc
  clear q_pc
  wtm_at "go"
  have ea := x_Hb _ _ s_pa
  have xc := x_Ha.trans (x_Hb.trans x_Hc)
  have sa := x_Hc _ _ ea
  have sb := x_Hc _ _ s_pb
  refine Pk.rd_ixL (SqL.of s_pc) (Pk.at_nat (k := 0) rfl) ?_
  wtm_at "go"
  refine Pk.rd_ixL (SqL.of s_pc) (Pk.at_nat (k := 1) rfl) ?_
  wtm_at "go"
  refine ⟨pa, pb, old, neu, rfl, SqL.of sa, SqL.of sb, by omega, by omega, fun pf ts fs Hd npf ed kp sf prs => ?_⟩
  wtm_at "go"
  refine ⟨Nat.le_of_ble_eq_true rfl, fun pe n_pe => ?_⟩
  generalize q_pe : upd _ pe _ = He
  have x_He := Pk.lay_ex n_pe q_pe
  have s_pe := Pk.lay_at q_pe
  clear q_pe
  have se := x_He _ _ (ed _ _ s_pc)
  have xe := xc.trans (ed.trans x_He)
  refine Pk.rd_neSelf (d := .list [.list (old.map PyData.str), .list (neu.map PyData.str)]) (.lst (SqL.of se) (.cons (.lst (SqL.of (x_He _ _ (ed _ _ sa))) (Pk.dp_strs _)) (.cons (.lst (SqL.of (x_He _ _ (ed _ _ sb))) (Pk.dp_strs _)) .nil)))
    (.lst (SqL.of s_pe) (.cons (.lst (SqL.of (xe _ _ so5)) (Pk.dp_strs _)) (.cons (.lst (SqL.of (xe _ _ sm)) (Pk.dp_strs _)) .nil))) (Pk.shaped_two oo om) ?_
  wtm_at "go"
  have sf2 := x_He _ _ sf
  have prs2 := prs.ex x_He
  refine ⟨pf, ts, fs, rfl, sf2, prs2, ?_⟩
  wtm_at "go"
  rw [List.length_map, prs.len]
  refine ⟨po, pm, old, neu, rfl, SqL.of (xe _ _ so5), SqL.of (xe _ _ sm), by omega, by omega, fun Hf ef => ?_⟩
  wtm_at "go"
  refine Pk.rd_nyes (by rw [kp.length]) ?_
  wtm_at "go"
  refine ⟨Nat.le_of_ble_eq_true rfl, fun pg n_pg => ?_⟩
  generalize q_pg : upd _ pg _ = Hg
  have x_Hg := Pk.lay_ex n_pg q_pg
  have s_pg := Pk.lay_at q_pg
  clear q_pg
  wtm_at "go"
  have xg := ef.trans x_Hg
  have sf3 := xg _ _ sf2
  have prs3 := prs2.ex xg
  have so7 := xg _ _ (xe _ _ so5)
  have sm7 := xg _ _ (xe _ _ sm)
  refine ⟨⟨_, SqL.of sf3⟩, for_list (K := K) (a := pf) (xs := ts.map V.ref) (fun i σ H' => H' = Hg ∧ ∃ (pl : Addr) (x y : Int) (v : Option V), σ = [some (.ref a), some (.ref p2), some (.ref po), some (.ref pm), v1, v2, v3, some (.ref pc), some (.ref pf), some (.ref pl), v, none] ∧ Hg pl = some (.tup [.int x, .int y]) ∧ (i = 0 → x = -1 ∧ y = -1) ∧ (∀ w, 0 < i → fs[i - 1]? = some w → x = (w.1 : Int) ∧ y = (w.2 : Int))) ?_ (fun i σ H' _ z => by rw [z.1]; exact SqL.of sf3) ?_ ?_⟩
  · exact ⟨rfl, pg, -1, -1, none, rfl, s_pg, fun _ => ⟨rfl, rfl⟩, fun w h => absurd h (by omega)⟩
  · rintro i z σ H' hx ⟨rfl, pl, x, y, v, rfl, hpl, z0, z1⟩
    have hi : i < fs.length := by
      have z := (List.getElem?_eq_some_iff.mp hx).1
      rw [List.length_map, prs.len] at z
      exact z
    generalize hw : fs[i] = w
    have hwk : fs[i]? = some w := by rw [List.getElem?_eq_getElem hi, hw]
    obtain ⟨wi, wj⟩ := w
    obtain ⟨t, ht, hT⟩ := prs3.at_ i wi wj hwk
    rw [List.getElem?_map, ht] at hx
    cases hx
    obtain ⟨l', r', nx, lc, _, _, d0, d1⟩ := kp.drop hwk
    have hit := nx.1
    have hwi : wi < old.length := hit.2.2.1
    have hwj : wj < neu.length := hit.2.2.2.1
    have hlw : l' ≤ wi := hit.1
    have hrw : r' ≤ wj := hit.2.1
    have heq : old[wi] = neu[wj] := by
      have z := hit.2.2.2.2.1
      simp only at z
      rw [List.getElem?_eq_getElem hwi, List.getElem?_eq_getElem hwj] at z
      exact Option.some.inj z
    have hxy : x < (wi : Int) ∧ y < (wj : Int) := by
      by_cases c : i = 0
      · have q1 := z0 c
        omega
      · have c2 : 0 < i := by omega
        have hk1 : i - 1 < fs.length := by omega
        have q1 := z1 _ c2 (List.getElem?_eq_getElem hk1)
        have q2 := d1 _ c2 (List.getElem?_eq_getElem hk1)
        omega
    wtm_at "go"
    refine Pk.rd_ixT (SqT.of hpl) (Pk.at_nat (k := 0) rfl) ?_
    wtm_at "go"
    refine Pk.rd_ixT (SqT.of hT) (Pk.at_nat (k := 0) rfl) ?_
    wtm_at "go"
    refine Pk.rd_yes hxy.1 ?_
    wtm_at "go"
    rw [List.length_map]
    refine Pk.rd_nyes (by omega) ?_
    wtm_at "go"
    refine Pk.rd_ixT (SqT.of hpl) (Pk.at_nat (k := 1) rfl) ?_
    wtm_at "go"
    refine Pk.rd_ixT (SqT.of hT) (Pk.at_nat (k := 1) rfl) ?_
    wtm_at "go"
    refine Pk.rd_yes hxy.2 ?_
    wtm_at "go"
    rw [List.length_map]
    refine Pk.rd_nyes (by omega) ?_
    wtm_at "go"
    refine Pk.rd_ixT (SqT.of hT) (Pk.at_nat (k := 0) rfl) ?_
    wtm_at "go"
    refine Pk.rd_ixL (SqL.of so7) (Pk.at_mapN hwi) ?_
    wtm_at "go"
    refine Pk.rd_ixT (SqT.of hT) (Pk.at_nat (k := 1) rfl) ?_
    wtm_at "go"
    refine Pk.rd_ixL (SqL.of sm7) (Pk.at_mapN hwj) ?_
    wtm_at "go"
    refine Pk.rd_nyes heq ?_
    wtm_at "go"
    refine ⟨rfl, t, (wi : Int), (wj : Int), _, rfl, hT, fun z => absurd z (by omega), fun w _ hw2 => ?_⟩
    have ez : i + 1 - 1 = i := by omega
    rw [ez, hwk] at hw2
    cases hw2
    exact ⟨rfl, rfl⟩
  · rintro σ H' ⟨rfl, pl, x, y, v, rfl, hpl, _, _⟩
    wtm_at "go"
    refine Pk.rd_rlist K (SqL.of sf3) ?_
    intro pt n_pt
    generalize q_pt : upd _ pt _ = Hh
    have x_Hh := Pk.lay_ex n_pt q_pt
    have s_pt := Pk.lay_at q_pt
    clear q_pt
    wtm_at "go"
    refine ⟨Nat.le_of_ble_eq_true rfl, fun pu n_pu => ?_⟩
    generalize q_pu : upd _ pu _ = Hi
    have x_Hi := Pk.lay_ex n_pu q_pu
    have s_pu := Pk.lay_at q_pu
    clear q_pu
    wtm_at "go"
    have sfi := x_Hi _ _ (x_Hh _ _ sf3)
    refine Pk.rd_app sfi (Pk.line_lt (by rw [List.length_map, prs.len, kp.length]; have := (Pk.lcs_ex (old.drop 0) (neu.drop 0)); obtain ⟨s, s1, s2, s3⟩ := this; have z := s1.length_le; rw [List.length_drop] at z; unfold Pk.Lc; omega)) ?_
    generalize q_Hj : upd _ pf _ = Hj
    have s_Hj := Pk.lay_at q_Hj
    have m_Hj := Pk.lay_mut q_Hj
    clear q_Hj
    wtm_at "go"
    have exi : Pk.Ex Hc Hi := ed.trans (x_He.trans (xg.trans (x_Hh.trans x_Hi)))
    have ecj : Pk.Ex Hc Hj := exi.mut2 npf m_Hj
    have esj : Pk.Ex H5 Hc := xc
    have scj := ecj _ _ s_pc
    have hpt : pt ≠ pf := by
      intro z
      rw [z] at n_pt
      rw [sf3] at n_pt
      cases n_pt
    have stj : Hj pt = some (.lst (ts.map V.ref)) := m_Hj _ _ hpt (x_Hi _ _ s_pt)
    have prsj : Pk.Prs Hj ts fs := (prs3.ex (x_Hh.trans x_Hi)).mutL sfi m_Hj
    refine Pk.rd_ixL (SqL.of scj) (Pk.at_nat (k := 0) rfl) ?_
    wtm_at "go"
    refine Pk.rd_ixL (SqL.of scj) (Pk.at_nat (k := 1) rfl) ?_
    wtm_at "go"
    refine ⟨pa, pb, old, neu, rfl, SqL.of (ecj _ _ sa), SqL.of (ecj _ _ sb), by omega, by omega, fun pf2 ts2 fs2 Hk npf2 ek kp2 sf2' prs2' => ?_⟩
    wtm_at "go"
    have eqf : fs2 = fs := kp2.unique kp
    subst eqf
    have stk := ek _ _ stj
    have prsk := prsj.ex ek
    refine Pk.rd_eqSelf (d := .list (fs2.map Pk.pD)) (.lst (SqL.of sf2') prs2'.dps) (.lst (SqL.of stk) prsk.dps) (Pk.pDs_shaped _) ?_
    wtm_at "go"
    have so9 := (esj.trans (ecj.trans ek)) _ _ so5
    have sm9 := (esj.trans (ecj.trans ek)) _ _ sm
    refine ⟨po, pm, pt, old, neu, ts, fs2, rfl, SqL.of so9, SqL.of sm9, by omega, by omega, stk, prsk, kp, fun Hm _ => ?_⟩
    wtm_at "go"
    exact q Hm
end
end PkA
set_option maxHeartbeats 0
namespace PkA
open PySem PySem.Spec PyProof.Rows L2
def d_lengths : He.DefD := ⟨("lengths", none), "lengths", "lengths", defArgs s_lengths, defBody s_lengths, defScope s_lengths, [], []⟩
def d_next_pair : He.DefD := ⟨("next_pair", none), "next_pair", "next_pair", defArgs s_next_pair, defBody s_next_pair, defScope s_next_pair, [], []⟩
def d_kept : He.DefD := ⟨("kept", none), "kept", "kept", defArgs s_kept, defBody s_kept, defScope s_kept, [], []⟩
def d_law_cell_at : He.DefD := ⟨("_law_cell_at", none), "_law_cell_at", "_law_cell_at", defArgs s_law_cell_at, defBody s_law_cell_at, defScope s_law_cell_at, [], []⟩
def d_law_text : He.DefD := ⟨("_law_text", none), "_law_text", "_law_text", defArgs s_law_text, defBody s_law_text, defScope s_law_text, [], []⟩
def d_law_texts : He.DefD := ⟨("_law_texts", none), "_law_texts", "_law_texts", defArgs s_law_texts, defBody s_law_texts, defScope s_law_texts, [], []⟩
def d_law_whole : He.DefD := ⟨("_law_whole", none), "_law_whole", "_law_whole", defArgs s_law_whole, defBody s_law_whole, defScope s_law_whole, [], []⟩
def d_law_pairs_form : He.DefD := ⟨("_law_pairs_form", none), "_law_pairs_form", "_law_pairs_form", defArgs s_law_pairs_form, defBody s_law_pairs_form, defScope s_law_pairs_form, [], []⟩
def d_law_most : He.DefD := ⟨("_law_most", none), "_law_most", "_law_most", defArgs s_law_most, defBody s_law_most, defScope s_law_most, [], []⟩
def d_law_behind : He.DefD := ⟨("_law_behind", none), "_law_behind", "_law_behind", defArgs s_law_behind, defBody s_law_behind, defScope s_law_behind, [], []⟩
def d_law_first : He.DefD := ⟨("_law_first", none), "_law_first", "_law_first", defArgs s_law_first, defBody s_law_first, defScope s_law_first, [], []⟩
def d_law : He.DefD := ⟨("law", none), "law", "law", defArgs s_law, defBody s_law, defScope s_law, [], []⟩
def fn : List He.DefD := [d_lengths, d_next_pair, d_kept, d_law_cell_at, d_law_text, d_law_texts, d_law_whole, d_law_pairs_form, d_law_most, d_law_behind, d_law_first, d_law]
def fa0 : List He.Fa := [.glo "lengths", .keep "lengths", .glo "next_pair", .keep "next_pair", .glo "kept", .keep "kept", .glo "_law_cell_at", .keep "_law_cell_at", .glo "_law_text", .keep "_law_text", .glo "_law_texts", .keep "_law_texts", .glo "_law_whole", .keep "_law_whole", .glo "_law_pairs_form", .keep "_law_pairs_form", .glo "_law_most", .keep "_law_most", .glo "_law_behind", .keep "_law_behind"]
def fa1 : List He.Fa := [.glo "_law_first", .keep "_law_first", .glo "law", .keep "law", .free "bool", .free "int", .free "isinstance", .free "len", .free "list", .free "max", .free "range", .free "reversed", .free "tuple"]
def fa : List He.Fa := fa0 ++ fa1
def exf (K : PySem.W.Frag) : Bool := true || K.isEmpty
abbrev R : PySem.W.OpenRow := PySem.W.OpenLaw.row PySem.Challenge.rw_patchkin_k01_kept
abbrev hk : PySem.W.Hook := He.hookX 5 fa fn [] [] exf
def ob (s : PySem.W.SharedT) : He.AlX := He.obsX 5 fa fn [] [] exf (HandSHeadRun.getT s)
theorem ob_eq (s : PySem.W.SharedT) : ob s = hk.obs s.abs := He.obsX_eq (HandSHeadRun.getT_eq s)
def loose0 : List Str := ["__name__", "lengths", "next_pair", "kept", "_law_cell_at", "_law_text", "_law_texts", "_law_whole", "_law_pairs_form", "_law_most", "_law_behind", "_law_first"]
def loose : List Str := loose0
theorem run (w : World) : HandSHeadRun.RunEq R (PySem.W.view R.prog [13]) hk ob 4000 loose w := by
  intro os
  kernel_rfl
theorem txt_of {K : PySem.W.Frag} {h : Heap} {mg : Str → Option Value} (X : K.In h) (G : h.Ns mainGlobals mg) (c : He.SaysD fa fn K) (m : exf K = true) : Txt K mg where
  g_lengths := He.glo_ok X G (c.fact 0 (f := .glo "lengths") rfl)
  k_lengths := He.keep_ok (c.fact 1 (f := .keep "lengths") rfl)
  F_lengths := c.def_ 0 (d := d_lengths) rfl
  g_next_pair := He.glo_ok X G (c.fact 2 (f := .glo "next_pair") rfl)
  k_next_pair := He.keep_ok (c.fact 3 (f := .keep "next_pair") rfl)
  F_next_pair := c.def_ 1 (d := d_next_pair) rfl
  g_kept := He.glo_ok X G (c.fact 4 (f := .glo "kept") rfl)
  k_kept := He.keep_ok (c.fact 5 (f := .keep "kept") rfl)
  F_kept := c.def_ 2 (d := d_kept) rfl
  g_law_cell_at := He.glo_ok X G (c.fact 6 (f := .glo "_law_cell_at") rfl)
  k_law_cell_at := He.keep_ok (c.fact 7 (f := .keep "_law_cell_at") rfl)
  F_law_cell_at := c.def_ 3 (d := d_law_cell_at) rfl
  g_law_text := He.glo_ok X G (c.fact 8 (f := .glo "_law_text") rfl)
  k_law_text := He.keep_ok (c.fact 9 (f := .keep "_law_text") rfl)
  F_law_text := c.def_ 4 (d := d_law_text) rfl
  g_law_texts := He.glo_ok X G (c.fact 10 (f := .glo "_law_texts") rfl)
  k_law_texts := He.keep_ok (c.fact 11 (f := .keep "_law_texts") rfl)
  F_law_texts := c.def_ 5 (d := d_law_texts) rfl
  g_law_whole := He.glo_ok X G (c.fact 12 (f := .glo "_law_whole") rfl)
  k_law_whole := He.keep_ok (c.fact 13 (f := .keep "_law_whole") rfl)
  F_law_whole := c.def_ 6 (d := d_law_whole) rfl
  g_law_pairs_form := He.glo_ok X G (c.fact 14 (f := .glo "_law_pairs_form") rfl)
  k_law_pairs_form := He.keep_ok (c.fact 15 (f := .keep "_law_pairs_form") rfl)
  F_law_pairs_form := c.def_ 7 (d := d_law_pairs_form) rfl
  g_law_most := He.glo_ok X G (c.fact 16 (f := .glo "_law_most") rfl)
  k_law_most := He.keep_ok (c.fact 17 (f := .keep "_law_most") rfl)
  F_law_most := c.def_ 8 (d := d_law_most) rfl
  g_law_behind := He.glo_ok X G (c.fact 18 (f := .glo "_law_behind") rfl)
  k_law_behind := He.keep_ok (c.fact 19 (f := .keep "_law_behind") rfl)
  F_law_behind := c.def_ 9 (d := d_law_behind) rfl
  g_law_first := He.glo_ok X G (c.fact 20 (f := .glo "_law_first") rfl)
  k_law_first := He.keep_ok (c.fact 21 (f := .keep "_law_first") rfl)
  F_law_first := c.def_ 10 (d := d_law_first) rfl
  g_law := He.glo_ok X G (c.fact 22 (f := .glo "law") rfl)
  k_law := He.keep_ok (c.fact 23 (f := .keep "law") rfl)
  F_law := c.def_ 11 (d := d_law) rfl
  b_bool := He.free_ok X G (c.fact 24 (f := .free "bool") rfl)
  b_int := He.free_ok X G (c.fact 25 (f := .free "int") rfl)
  b_isinstance := He.free_ok X G (c.fact 26 (f := .free "isinstance") rfl)
  b_len := He.free_ok X G (c.fact 27 (f := .free "len") rfl)
  b_list := He.free_ok X G (c.fact 28 (f := .free "list") rfl)
  b_max := He.free_ok X G (c.fact 29 (f := .free "max") rfl)
  b_range := He.free_ok X G (c.fact 30 (f := .free "range") rfl)
  b_reversed := He.free_ok X G (c.fact 31 (f := .free "reversed") rfl)
  b_tuple := He.free_ok X G (c.fact 32 (f := .free "tuple") rfl)
end PkA
open PySem PySem.W PySem.Calls PyProof.Rows
theorem PySem.Challenge.cw_patchkin_k01_kept_holds : PySem.Challenge.rw_patchkin_k01_kept.Holds := by
  w_on; o_law
  refine HandSHeadRun.head_any (r := OpenLaw.row PySem.Challenge.rw_patchkin_k01_kept) (q := view (OpenLaw.row PySem.Challenge.rw_patchkin_k01_kept).prog [13]) (H := PkA.hk) (ob := PkA.ob) (M := 4000) (loose := PkA.loose) (d := HandSHeadRun.topDef (OpenLaw.row PySem.Challenge.rw_patchkin_k01_kept).prog 13) (kwd := []) PkA.ob_eq
    (by kernel_rfl) (fun s => by kernel_rfl) PkA.run (by kernel_rfl) (by kernel_rfl) (by kernel_rfl) (by rfl) (by first | assumption | decide +kernel) (by decide +kernel) ⟨rfl, rfl, rfl, rfl, rfl, by decide +kernel⟩ ?hw ?hc
  case hw => w_witness2
  case hc =>
    refine L2.walk_ofE (l := PySem.Challenge.rw_patchkin_k01_kept) (n := 63) (k := 3) (x := "script") (CX := L2.CX0) rfl (by decide) (by kernel_rfl) ⟨rfl, by decide, by decide⟩ ?F (fun _ _ _ _ z => z)
    intro w mg fa h Y G hmg0
    obtain ⟨K, KX, c⟩ := Y
    have hmg : mg ("law" : PySem.Str) = some (.ref fa) := by
      have e : (HandSHeadRun.topDef (OpenLaw.row PySem.Challenge.rw_patchkin_k01_kept).prog 13).name = ("law" : PySem.Str) := by kernel_rfl
      rw [← e]
      exact hmg0
    have T : PkA.Txt K mg := PkA.txt_of KX G c.t.d c.more
    obtain ⟨fd, F⟩ := T.F_law
    have b := F.bindsA (ps := ["script"]) fun _ _ _ _ _ _ us hl => match us, hl with | [_], _ => rfl
    have ea : He.fAd K ("law", none) = fa := by
      have z := hmg.symm.trans T.g_law
      cases z
      rfl
    refine ⟨K, fd, PkA.sp_law K, KX, fun s v => b s [v] rfl, fun H a ns hl _ hS => ⟨a, ns, rfl, hS, fun _ => rfl⟩, fun base _ _ => ?_⟩
    have z := PkA.ok_law (P := (PySem.Challenge.rw_patchkin_k01_kept).prog) (w := w) (base := base) T F
    rw [ea] at z
    exact z
