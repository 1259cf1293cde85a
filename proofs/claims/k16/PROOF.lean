import PyProof.Rows.All
import Wide.All
import OpenK.AllK
import Wide.FinOn
import KE.KStateDown
import Lean
import HandS.ForMost
import HandS.Evl
import HandS.Exc
import HandS.WordsExc
import HandS.Defaults
import HandS.Conv
import HandS.RevRange
import HandS.Deep
import HandS.IsInst
import HandS.Head0
import HandS.Head1
import HandS.Head2
import HandS.HeadEnd
import HandS.HeadHook1
import HandS.HeadHook2
import HandS.HeadHook3
import HandS.HeadHook4
import HandS.ExcCtx
import HandS.HotCalls
import HandS.ExcIs
import HandS.ExcOwn
import HandS.WordsDict
import HandS.Text
import HandS.Iter
import HandS.More
import HandS.Dict
import HandS.SetFor
import PySem.Challenge.RW_patchkin_k16_rooms_of_names
set_option Elab.async false
set_option linter.all false
set_option maxRecDepth 100000
set_option maxHeartbeats 4000000
namespace Pk
open PySem PySem.Spec PyProof.Rows L2
/-! ### heaps that grow -/
/-- all that H tells stands in H' -/
def Ex (H H' : Hp) : Prop := ∀ a o, H a = some o → H' a = some o
theorem Ex.refl (H : Hp) : Ex H H := fun _ _ e => e
theorem Ex.trans {H H1 H2 : Hp} (a : Ex H H1) (b : Ex H1 H2) : Ex H H2 := fun x o e => b x o (a x o e)
theorem Ex.at {H H1 : Hp} {a : Addr} {o : HO} (e : Ex H H1) (h : H a = some o) : H1 a = some o := e a o h
theorem Ex.new {H : Hp} {p : Addr} {o : HO} (h : H p = none) : Ex H (upd H p o) := fun a x e => by
  rw [upd_ne (ne_of_none e h)]
  exact e
/-- an object that H does not know may change -/
theorem Ex.mut {H H1 : Hp} {p : Addr} {o : HO} (e : Ex H H1) (h : H p = none) : Ex H (upd H1 p o) := fun a x q => by
  rw [upd_ne (ne_of_none q h)]
  exact e a x q
theorem Ex.back {H H1 : Hp} {p : Addr} (e : Ex H H1) (h : H1 p = none) : H p = none := by
  cases q : H p with
  | none => rfl
  | some o =>
    have z := e p o q
    rw [h] at z
    cases z
theorem Ex.seqL {K : PySem.W.Frag} {H H1 : Hp} {a : Addr} {xs : List V} (e : Ex H H1) (h : SqL K H a xs) : SqL K H1 a xs := Same.seq (H := H) e h
theorem Ex.rd {H H1 : Hp} {a : Addr} {u : HO} (e : Ex H H1) (h : Rd H a u) : Rd H1 a u := by
  rcases h with h | ⟨o, h⟩
  · exact .inl (e _ _ h)
  · exact .inr ⟨o, e _ _ h⟩
theorem Ex.seqT {K : PySem.W.Frag} {H H1 : Hp} {a : Addr} {xs : List V} (e : Ex H H1) (h : SqT K H a xs) : SqT K H1 a xs := by
  rcases h with h | h
  · exact .inl (e.rd h)
  · exact .inr h
mutual
theorem Ex.dp {K : PySem.W.Frag} {H H1 : Hp} (e : Ex H H1) : ∀ {v : V} {d : PyData}, Dp K H v d → Dp K H1 v d
  | _, _, .non => .non
  | _, _, .bl b => .bl b
  | _, _, .int i => .int i
  | _, _, .str x => .str x
  | _, _, .lst h r => .lst (e.seqL h) (e.dps r)
  | _, _, .tup h r => .tup (e.seqT h) (e.dps r)
theorem Ex.dps {K : PySem.W.Frag} {H H1 : Hp} (e : Ex H H1) : ∀ {vs : List V} {ds : List PyData}, DpAll K H vs ds → DpAll K H1 vs ds
  | _, _, .nil => .nil
  | _, _, .cons h r => .cons (e.dp h) (e.dps r)
end
theorem keep_new {H : Hp} {a p : Addr} {o x : HO} (hp : H p = none) (h : H a = some x) : upd H p o a = some x := Ex.new hp a x h
theorem lay_ex {H H1 : Hp} {p : Addr} {o : HO} (hp : H p = none) (q : upd H p o = H1) : Ex H H1 := q ▸ Ex.new hp
theorem lay_at {H H1 : Hp} {p : Addr} {o : HO} (q : upd H p o = H1) : H1 p = some o := q ▸ upd_same
theorem lay_mut {H H1 : Hp} {p : Addr} {o : HO} (q : upd H p o = H1) : ∀ a x, a ≠ p → H a = some x → H1 a = some x := fun a x n h => by
  rw [← q, upd_ne n]
  exact h
/-- behind a change of an object that H0 does not know -/
theorem Ex.mut2 {H0 H H1 : Hp} {p : Addr} (e : Ex H0 H) (h : H0 p = none) (m : ∀ a x, a ≠ p → H a = some x → H1 a = some x) : Ex H0 H1 := fun a x q => m a x (ne_of_none q h) (e a x q)
theorem line_le {n : Nat} (h : n ≤ 100000) : n ≤ sizeLine := by
  rw [sizeLine_eq]
  exact Nat.le_trans h (by decide)
theorem line_lt {n : Nat} (h : n < 100000) : n < sizeLine := by
  rw [sizeLine_eq]
  exact Nat.lt_of_lt_of_le h (by decide)
/-! ### a def that keeps its promise, with how it binds -/
structure Ok (P : Program) (w : World) (K : PySem.W.Frag) (mg : Str → Option Value) (base : Heap) (C : CXT) (k : Nat) (f : Addr) (ps : List Str) (sp : Sp) : Prop where
  ex : ∃ fd : FuncData, FnOk P w K mg base C k f fd ps sp ∧ Binds K fd ps []
/-! ### readings, step by step -/
section
variable {σ : L2.St} {H : Hp} {Q : VK} {K : PySem.W.Frag} {D : Ends} {ta tb tc te : TE} {t u : TS} {tt tu : TT} {a p : Addr} {xs : List V} {i j : Int} {v x y : V}
theorem rd_var {n : Nat} (h : σ[n]? = some (some v)) (q : Q v H) : tVar n σ H Q := ⟨v, h, q⟩
theorem rd_c (q : Q v H) : tC v σ H Q := q
theorem rd_op {r : R2} (q : ta σ H fun x H1 => tb σ H1 fun y H2 => r x y H2 Q) : tOp r ta tb σ H Q := q
theorem rd_un {r : V → Hp → VK → Prop} (q : ta σ H fun x H1 => r x H1 Q) : tUn r ta σ H Q := q
theorem rd_I0 {g : Int → Int → V} (q : Q (g i j) H) : rI0 g (.int i) (.int j) H Q := ⟨i, j, rfl, rfl, q⟩
theorem rd_I {C : Int → Int → Prop} {g : Int → Int → V} (c : C i j) (q : Q (g i j) H) : rI C g (.int i) (.int j) H Q := ⟨i, j, rfl, rfl, c, q⟩
theorem rd_U {g : Int → V} (q : Q (g i) H) : rU g (.int i) H Q := ⟨i, rfl, q⟩
theorem dec_int' : decide (V.int i = V.int j) = decide (i = j) := decide_eq_decide.mpr ⟨fun h => V.int.inj h, fun h => congrArg _ h⟩
theorem dec_str' {i j : Str} : decide (V.str i = V.str j) = decide (i = j) := decide_eq_decide.mpr ⟨fun h => V.str.inj h, fun h => congrArg _ h⟩
theorem rd_eqi (q : Q (.bl (decide (i = j))) H) : rEq (.int i) (.int j) H Q := ⟨rfl, by rw [dec_int']; exact q⟩
theorem rd_nei (q : Q (.bl (!decide (i = j))) H) : rNe (.int i) (.int j) H Q := ⟨rfl, by rw [dec_int']; exact q⟩
theorem rd_eqs {i j : Str} (q : Q (.bl (decide (i = j))) H) : rEq (.str i) (.str j) H Q := ⟨rfl, by rw [dec_str']; exact q⟩
theorem rd_nes {i j : Str} (q : Q (.bl (!decide (i = j))) H) : rNe (.str i) (.str j) H Q := ⟨rfl, by rw [dec_str']; exact q⟩
theorem rd_tup {t : TA} (q : t σ H fun xs H1 => xs.length ≤ sizeLine ∧ ∀ p, H1 p = none → Q (.ref p) (upd H1 p (.tup xs))) : tTup t σ H Q := q
theorem rd_lst {t : TA} (q : t σ H fun xs H1 => xs.length ≤ sizeLine ∧ ∀ p, H1 p = none → Q (.ref p) (upd H1 p (.lst xs))) : tLst t σ H Q := q
theorem rd_nil {Q : List V → Hp → Prop} (q : Q [] H) : tNil σ H Q := q
theorem rd_cons {t : TA} {Q : List V → Hp → Prop} (q : ta σ H fun x H1 => t σ H1 fun xs H2 => Q (x :: xs) H2) : tCons ta t σ H Q := q
theorem rd_cb {r : List V → Hp → VK → Prop} {t : TA} (q : t σ H fun vs H1 => r vs H1 Q) : tCB r t σ H Q := q
theorem rd_call {sp : Sp} {dvs : List V} {E : XK} {t : TA} (q : t σ H fun vs H1 => sp (vs ++ dvs) H1 Q E) : tCall sp dvs E t σ H Q := q
theorem rd_test {Q : Bool → Hp → Prop} (q : te σ H fun x H1 => ∃ k, x = .bl k ∧ Q k H1) : tTest te σ H Q := q
theorem rd_B {Q : Bool → Hp → Prop} (q : te σ H fun x H1 => ∃ k, x = .bl k ∧ Q k H1) : tB te σ H Q := q
theorem rd_tand {Q : Bool → Hp → Prop} (q : tt σ H fun c H1 => if c = true then tu σ H1 Q else Q false H1) : tAnd tt tu σ H Q := q
theorem rd_tor {Q : Bool → Hp → Prop} (q : tt σ H fun c H1 => if c = true then Q true H1 else tu σ H1 Q) : tOr tt tu σ H Q := q
theorem rd_tnot {Q : Bool → Hp → Prop} (q : tt σ H fun c H1 => Q (!c) H1) : tNot tt σ H Q := q
theorem rd_andV (q : ta σ H fun x H1 => ∃ c, x = .bl c ∧ if c = true then tb σ H1 Q else Q (.bl false) H1) : tAndV ta tb σ H Q := q
theorem rd_orV (q : ta σ H fun x H1 => ∃ c, x = .bl c ∧ if c = true then Q (.bl true) H1 else tb σ H1 Q) : tOrV ta tb σ H Q := q
theorem rd_notV (q : ta σ H fun x H1 => ∃ c, x = .bl c ∧ Q (.bl (!c)) H1) : tNotV ta σ H Q := q
theorem rd_ifx (q : tt σ H fun c H1 => if c = true then ta σ H1 Q else tb σ H1 Q) : tIf tt ta tb σ H Q := q
theorem rd_chain {r r' : R2} (q : ta σ H fun x H1 => tb σ H1 fun y H2 => r x y H2 fun z H3 => ∃ k, z = .bl k ∧ (if k = true then tc σ H3 fun w' H4 => r' y w' H4 Q else Q (.bl false) H3)) : tChain r r' ta tb tc σ H Q := q
theorem rd_bl {B : Bool → Prop} {b : Bool} (q : B b) : ∃ k, V.bl b = V.bl k ∧ B k := ⟨b, rfl, q⟩
theorem rd_ixL (h : SqL K H p xs) (ha : atI xs i = some v) (q : Q v H) : rIxL K (.ref p) (.int i) H Q := ⟨p, xs, i, v, rfl, rfl, h, ha, q⟩
theorem rd_ixT (h : SqT K H p xs) (ha : atI xs i = some v) (q : Q v H) : rIxT K (.ref p) (.int i) H Q := ⟨p, xs, i, v, rfl, rfl, h, ha, q⟩
theorem rd_lenL {B : Addr → List V → Prop} (h : SqL K H a xs) (q : B a xs) : ∃ p ys, [V.ref a] = [V.ref p] ∧ (SqL K H p ys ∨ SqT K H p ys) ∧ B p ys := ⟨a, xs, rfl, .inl h, q⟩
theorem rd_lenT {B : Addr → List V → Prop} (h : SqT K H a xs) (q : B a xs) : ∃ p ys, [V.ref a] = [V.ref p] ∧ (SqL K H p ys ∨ SqT K H p ys) ∧ B p ys := ⟨a, xs, rfl, .inr h, q⟩
theorem rd_lenS {B : Str → Prop} {s : Str} (h : s.length ≤ sizeLine) (q : B s) : ∃ z, [V.str s] = [V.str z] ∧ z.length ≤ sizeLine ∧ B z := ⟨s, rfl, h, q⟩
theorem rd_int2 {B : Int → Int → Prop} (q : B i j) : ∃ a b, [V.int i, V.int j] = [V.int a, V.int b] ∧ B a b := ⟨i, j, rfl, q⟩
theorem rd_int1 {B : Int → Prop} (q : B i) : ∃ a, [V.int i] = [V.int a] ∧ B a := ⟨i, rfl, q⟩
theorem rd_intb {A : Prop} {B : Bool → Prop} {b : Bool} (q : B b) : A ∨ ∃ k, [V.bl b] = [V.bl k] ∧ B k := .inr ⟨b, rfl, q⟩
theorem rd_isn {B : Prop} (q : B) : V.non = V.non ∧ B := ⟨rfl, q⟩
theorem rd_isN {B : Bool → Prop} {b : Bool} (h : decide (x = .non) = b) (q : B b) : V.non = V.non ∧ B (decide (x = .non)) := ⟨rfl, by rw [h]; exact q⟩
/-! statements -/
theorem rd_seq (q : t { D with nx := u D } σ H) : tSeq t u D σ H := q
theorem rd_cut (M : L2.St → Hp → Prop) (h : t { D with nx := M } σ H) (k : ∀ σ' H', M σ' H' → u D σ' H') : Evl.tCut t u D σ H := ⟨M, h, k⟩
theorem rd_next (q : D.nx σ H) : tNext D σ H := q
theorem rd_brk (q : D.bk σ H) : tBreak D σ H := q
theorem rd_asg {g : TG} (q : te σ H fun x H1 => g x σ H1 D.nx) : tAsg te g D σ H := q
theorem rd_gname {n : Nat} {Q : L2.St → Hp → Prop} (q : Q (σ.set n (some v)) H) : gName n v σ H Q := q
theorem rd_gsub {to ti : TE} {s : TSet} {Q : L2.St → Hp → Prop} (q : to σ H fun o H1 => ti σ H1 fun i H2 => s o i v H2 fun H3 => Q σ H3) : gSub to ti s v σ H Q := q
theorem rd_setL {Q : Hp → Prop} {l : Addr} {k : Nat} (h : H l = some (.lst xs)) (hk : k < xs.length) (q : Q (upd H l (.lst (xs.set k v)))) : rSetL (.ref l) (.int (k : Int)) v H Q :=
  ⟨l, xs, (k : Int), k, rfl, rfl, h, by unfold ixN; rw [if_pos (by omega), if_pos (by omega)]; simp, q⟩
theorem rd_drop (q : te σ H fun _ H1 => D.nx σ H1) : tDrop te D σ H := q
theorem rd_ret (q : te σ H D.rt) : tRet te D σ H := q
theorem rd_retN (q : D.rt .non H) : tRetN D σ H := q
theorem rd_ifs {c : TT} (q : c σ H fun b H1 => if b = true then t D σ H1 else u D σ H1) : tIfS c t u D σ H := q
theorem rd_nx {nx : L2.St → Hp → Prop} {rt : VK} {bk ct : L2.St → Hp → Prop} (q : nx σ H) : Ends.nx ⟨nx, rt, bk, ct⟩ σ H := q
theorem rd_rt {nx : L2.St → Hp → Prop} {rt : VK} {bk ct : L2.St → Hp → Prop} (q : rt v H) : Ends.rt ⟨nx, rt, bk, ct⟩ v H := q
theorem rd_bk {nx : L2.St → Hp → Prop} {rt : VK} {bk ct : L2.St → Hp → Prop} (q : bk σ H) : Ends.bk ⟨nx, rt, bk, ct⟩ σ H := q
theorem rd_T {A B : Prop} (q : A) : if true = true then A else B := by rw [if_pos rfl]; exact q
theorem rd_F {A B : Prop} (q : B) : if false = true then A else B := by rw [if_neg Bool.false_ne_true]; exact q
theorem rd_nT {A B : Prop} (q : B) : if (!true) = true then A else B := by rw [if_neg (by decide)]; exact q
theorem rd_nF {A B : Prop} (q : A) : if (!false) = true then A else B := by rw [if_pos (by decide)]; exact q
theorem rd_dec {p A B : Prop} [Decidable p] (h1 : p → A) (h2 : ¬ p → B) : if decide p = true then A else B := by
  by_cases c : p
  · rw [if_pos (decide_eq_true c)]; exact h1 c
  · rw [if_neg (by rw [decide_eq_false c]; exact Bool.false_ne_true)]; exact h2 c
theorem rd_ndec {p A B : Prop} [Decidable p] (h1 : ¬ p → A) (h2 : p → B) : if (!decide p) = true then A else B := by
  by_cases c : p
  · rw [if_neg (by rw [decide_eq_true c]; decide)]; exact h2 c
  · rw [if_pos (by rw [decide_eq_false c]; rfl)]; exact h1 c
theorem rd_yes {p A B : Prop} [Decidable p] (c : p) (h : A) : if decide p = true then A else B := rd_dec (fun _ => h) (fun n => absurd c n)
theorem rd_no {p A B : Prop} [Decidable p] (c : ¬ p) (h : B) : if decide p = true then A else B := rd_dec (fun n => absurd n c) (fun _ => h)
theorem rd_nyes {p A B : Prop} [Decidable p] (c : p) (h : B) : if (!decide p) = true then A else B := rd_ndec (fun n => absurd c n) (fun _ => h)
theorem rd_nno {p A B : Prop} [Decidable p] (c : ¬ p) (h : A) : if (!decide p) = true then A else B := rd_ndec (fun _ => h) (fun n => absurd n c)
theorem rd_any {b : Bool} {A B : Prop} (h1 : b = true → A) (h2 : b = false → B) : if b = true then A else B := by
  cases b
  · exact rd_F (h2 rfl)
  · exact rd_T (h1 rfl)
/-! methods of lists -/
theorem rd_bm {T : String} {r : V → List V → Hp → VK → Prop} {t : TA} (q : te σ H fun x H1 => tyV K T x H1 ∧ t σ H1 fun xs H2 => r x xs H2 Q) : tBM K T r te t σ H Q := q
theorem rd_bm0 {T : String} {r : V → List V → Hp → VK → Prop} (q : te σ H fun x H1 => tyV K T x H1 ∧ r x [] H1 Q) : tBM0 K T r te σ H Q := q
theorem rd_tyL {B : Prop} (h : SqL K H p xs) (q : B) : tyV K "list" (.ref p) H ∧ B := ⟨.inl ⟨rfl, _, h⟩, q⟩
theorem rd_app {l : Addr} (h : H l = some (.lst xs)) (hl : xs.length < sizeLine) (q : Q .non (upd H l (.lst (xs ++ [v])))) : rAppend (.ref l) [v] H Q := ⟨l, xs, v, rfl, rfl, h, hl, q⟩
/-! loops -/
/-- what a for asks of the iterator that came -/
abbrev ForOf (g : TG) (t : TS) (D : Ends) (σ : L2.St) (J : It) (H : Hp) : Prop := ∃ W : Nat → Nat → L2.St → Hp → Prop, (∃ m, W 0 m σ H) ∧ ∀ i m σ H, W i m σ H →
  (J.stop i H ∧ D.nx σ H) ∨ (J.go i H ∧ ∃ N : L2.St → Hp → Prop, (∀ σ' H', N σ' H' → ∃ m', m' < m ∧ W (i + 1) m' σ' H') ∧ ∀ x H', J.yld i H x H' → g x σ H' fun σ2 H2 => t { D with nx := N, ct := N, bk := D.nx } σ2 H2)
theorem rd_for {wi : TI} {g : TG} (q : wi σ H (ForOf g t D σ)) : tFor wi g t D σ H := q
theorem rd_rng1 {tl : TA} {R : It → Hp → Prop} (q : tl σ H fun vs H1 => ∃ j : Int, vs = [.int j] ∧ -(2 ^ 62) ≤ j ∧ j < 2 ^ 62 ∧ R (Itr 0 j.toNat) H1) : iRng1 tl σ H R := q
theorem rd_rng2 {tl : TA} {R : It → Hp → Prop} (q : tl σ H fun vs H1 => ∃ i j : Int, vs = [.int i, .int j] ∧ (-(2 ^ 62) ≤ i ∧ i < 2 ^ 62 ∧ -(2 ^ 62) ≤ j ∧ j < 2 ^ 62) ∧ R (Itr i (j - i).toNat) H1) : iRng2 tl σ H R := q
theorem rd_revR {tr : L2.St → Hp → (Int → Int → Hp → Prop) → Prop} {R : It → Hp → Prop} (q : tr σ H fun a b H1 => -(2 ^ 62) ≤ a ∧ a < 2 ^ 62 ∧ -(2 ^ 62) ≤ b ∧ b < 2 ^ 62 ∧ R (Itc (a + (((b - a).toNat : Nat) : Int) - 1) (-1) (b - a).toNat) H1) : iRevR tr σ H R := q
theorem rd_rg1 {R : Int → Int → Hp → Prop} (q : te σ H fun x H1 => ∃ n, x = .int n ∧ R 0 n H1) : tRg1 te σ H R := q
theorem rd_rg2 {R : Int → Int → Hp → Prop} (q : ta σ H fun x H1 => tb σ H1 fun y H2 => ∃ i j, x = .int i ∧ y = .int j ∧ R i j H2) : tRg2 ta tb σ H R := q
theorem rd_iList {tl : TE} {R : It → Hp → Prop} (q : tl σ H fun x H1 => ∃ a, x = .ref a ∧ (∃ xs, SqL K H1 a xs) ∧ R (Itl K a) H1) : iList K tl σ H R := q
theorem rd_ref {B : Addr → Prop} (q : B a) : ∃ p, V.ref a = V.ref p ∧ B p := ⟨a, rfl, q⟩
theorem rd_int {B : Int → Prop} (q : B i) : ∃ n, V.int i = V.int n ∧ B n := ⟨i, rfl, q⟩
theorem rd_while {c : TT} (q : ∃ W : Nat → L2.St → Hp → Prop, (∃ m, W m σ H) ∧ ∀ m σ H, W m σ H →
    c σ H fun b H1 => if b = true then ∃ N : L2.St → Hp → Prop, (∀ σ' H', N σ' H' → ∃ m', m' < m ∧ W m' σ' H') ∧ t { D with nx := N, ct := N, bk := D.nx } σ H1 else D.nx σ H1) : tWhile c t D σ H := q
theorem rd_forL {g : TG} (h : SqL K H a xs) (q : ∃ W : Nat → Nat → L2.St → Hp → Prop, (∃ m, W 0 m σ H) ∧ ∀ i m σ H, W i m σ H →
    ((Itl K a).stop i H ∧ D.nx σ H) ∨ ((Itl K a).go i H ∧ ∃ N : L2.St → Hp → Prop, (∀ σ' H', N σ' H' → ∃ m', m' < m ∧ W (i + 1) m' σ' H') ∧ ∀ x H', (Itl K a).yld i H x H' → g x σ H' fun σ2 H2 => t { D with nx := N, ct := N, bk := D.nx } σ2 H2))
    {n : Nat} (hv : σ[n]? = some (some (.ref a))) : tFor (iList K (tVar n)) g t D σ H := ⟨_, hv, a, rfl, ⟨_, h⟩, q⟩
end
/-! ### lists by places -/
theorem at_nat {α : Type} {xs : List α} {k : Nat} {v : α} (h : xs[k]? = some v) : atI xs (k : Int) = some v := atI_nat h
theorem at_int {α : Type} {xs : List α} {i : Int} {v : α} (h0 : 0 ≤ i) (h : xs[i.toNat]? = some v) : atI xs i = some v := by
  obtain ⟨k, rfl⟩ := Int.eq_ofNat_of_zero_le h0
  exact atI_nat (by simpa using h)
theorem at_mapN {α β : Type} {f : α → β} {xs : List α} {k : Nat} (h : k < xs.length) : atI (xs.map f) (k : Int) = some (f xs[k]) := atI_nat (by
  rw [List.getElem?_map, List.getElem?_eq_getElem h]
  rfl)
theorem at_map {α β : Type} {f : α → β} {xs : List α} {i : Int} (h0 : 0 ≤ i) (h : i.toNat < xs.length) : atI (xs.map f) i = some (f xs[i.toNat]) := at_int h0 (by
  rw [List.getElem?_map, List.getElem?_eq_getElem h]
  rfl)
end Pk
namespace Pk
open PySem PySem.Spec PyProof.Rows L2
theorem units65 {k : Nat} {A : Around} (r : Room k A) : A.units + 65 < cLine := Nat.lt_of_le_of_lt (by omega) r.un
end Pk
namespace Pk
open PySem PySem.Spec PyProof.Rows L2
/-! ### the rules with the written part told (within a comprehension's block no reading may hang on the block) -/
section
variable (K : PySem.W.Frag) {X : Cx} {a b e o : Expr} {es : List Expr} {ta tb te tl : TE} {t : TA} {pos apos cpos : Pos} {f : Str}
theorem ixL (h : X.K = K := by rfl) : IxR X (rIxL K) := by subst h; exact ix_list
theorem ixT (h : X.K = K := by rfl) : IxR X (rIxT K) := by subst h; exact ix_tup
/-- len of a list or tuple -/
def rLen : List V → Hp → VK → Prop := fun xs H Q => ∃ p ys, xs = [.ref p] ∧ (SqL K H p ys ∨ SqT K H p ys) ∧ Q (.int ys.length) H
theorem lenK (h : X.K = K := by rfl) : CallR X (.builtin "len") (rLen K) := by subst h; exact call_len_seq
theorem inSq (h : X.K = K := by rfl) : OpR X (compareOp .In) (rIn K false) := by subst h; exact op_in_seq
theorem ninSq (h : X.K = K := by rfl) : OpR X (compareOp .NotIn) (rIn K true) := by subst h; exact op_notIn_seq
theorem eqDK (hu : X.A.units + 64 < cLine) (h : X.K = K := by rfl) : OpR X (compareOp .Eq) (rEqD K) := by subst h; exact op_eqD hu
theorem neDK (hu : X.A.units + 64 < cLine) (h : X.K = K := by rfl) : OpR X (compareOp .NotEq) (rNeD K) := by subst h; exact op_neD hu
theorem inDK (hu : X.A.units + 65 < cLine) (h : X.K = K := by rfl) : OpR X (compareOp .In) (rInD K) := by subst h; exact op_inD hu
theorem ninDK (hu : X.A.units + 65 < cLine) (h : X.K = K := by rfl) : OpR X (compareOp .NotIn) (rNotInD K) := by subst h; exact op_notInD hu
theorem slL (h : X.K = K := by rfl) : SlR X (rSlL K) := by subst h; exact sl_list
theorem slT (h : X.K = K := by rfl) : SlR X (rSlT K) := by subst h; exact sl_tup
theorem fldK (he : PE X e ta) (hb : attributeBase e f X.env (eval e X.env) = eval e X.env) (h : X.K = K := by rfl) : PE X (.Attribute e f pos) (tFld K ta f) := by subst h; exact pe_fld he hb
theorem piL {tg : Expr} (he : PE X e ta) (h : X.K = K := by rfl) : PI X tg e (iList K ta) := by subst h; exact pi_list he
theorem piT {tg : Expr} (he : PE X e ta) (h : X.K = K := by rfl) : PI X tg e (iTup K ta) := by subst h; exact pi_tup he
/-- list(x) of a list or tuple -/
def rListOf : List V → Hp → VK → Prop := fun xs H Q => ∃ p ys, xs = [.ref p] ∧ (SqL K H p ys ∨ SqT K H p ys) ∧ ∀ l, H l = none → Q (.ref l) (upd H l (.lst ys))
theorem listOf (h : X.K = K := by rfl) : CallR X (.type "list") (rListOf K) := by subst h; exact call_list_of
theorem rd_rlen {H : Hp} {Q : VK} {p : Addr} {xs : List V} (h : SqL K H p xs) (q : Q (.int xs.length) H) : rLen K [.ref p] H Q := ⟨p, xs, rfl, .inl h, q⟩
theorem rd_rlenT {H : Hp} {Q : VK} {p : Addr} {xs : List V} (h : SqT K H p xs) (q : Q (.int xs.length) H) : rLen K [.ref p] H Q := ⟨p, xs, rfl, .inr h, q⟩
theorem rd_rlist {H : Hp} {Q : VK} {p : Addr} {xs : List V} (h : SqL K H p xs) (q : ∀ l, H l = none → Q (.ref l) (upd H l (.lst xs))) : rListOf K [.ref p] H Q := ⟨p, xs, rfl, .inl h, q⟩
theorem isiK (h : X.K = K := by rfl) : CallR X (.builtin "isinstance") (rIsi K) := by subst h; exact call_isi
end
end Pk
namespace Pk
open PySem
theorem bt_len : bootBuiltins "len" = some (.builtin "len") := by decide +kernel
theorem bt_max : bootBuiltins "max" = some (.builtin "max") := by decide +kernel
theorem bt_sorted : bootBuiltins "sorted" = some (.builtin "sorted") := by decide +kernel
theorem bt_isinstance : bootBuiltins "isinstance" = some (.builtin "isinstance") := by decide +kernel
theorem bt_list : bootBuiltins "list" = some (.type "list") := by decide +kernel
theorem bt_int : bootBuiltins "int" = some (.type "int") := by decide +kernel
theorem bt_str : bootBuiltins "str" = some (.type "str") := by decide +kernel
theorem bt_bool : bootBuiltins "bool" = some (.type "bool") := by decide +kernel
theorem bt_tuple : bootBuiltins "tuple" = some (.type "tuple") := by decide +kernel
theorem bt_dict : bootBuiltins "dict" = some (.type "dict") := by decide +kernel
theorem bt_ValueError : bootBuiltins "ValueError" = some (.type "ValueError") := by decide +kernel
end Pk
namespace Pk
open PySem PySem.Spec PyProof.Rows L2
/-! ### list comprehensions -/
/-- what a comprehension asks of the iterator that came -/
abbrev LcOf (g : TG) (tt : TT) (te : TE) (vs : List Nat) (σ : L2.St) (Q : VK) (J : It) (H1 : Hp) : Prop := ∀ D, H1 D = none → ∃ W : Nat → Nat → Hp → Prop, (∃ m, W 0 m (upd H1 D (.lst []))) ∧ ∀ i m H, W i m H →
  (J.stop i H ∧ Q (.ref D) H) ∨ (J.go i H ∧ ∃ Nx : Hp → Prop, (∀ H', Nx H' → ∃ m', m' < m ∧ W (i + 1) m' H') ∧ ∀ x H', J.yld i H x H' → g x (wipe σ vs) H' fun σ2 H2 => wipe σ2 vs = wipe σ vs ∧ tt σ2 H2 fun b H3 =>
    if b = true then te σ2 H3 fun y H4 => ∃ acc, H4 D = some (.lst acc) ∧ acc.length < sizeLine ∧ Nx (upd H4 D (.lst (acc ++ [y]))) else Nx H3)
section
variable {σ : L2.St} {H : Hp} {Q : VK} {K : PySem.W.Frag} {te : TE} {vs : List Nat}
theorem rd_lc {wi : TI} {g : TG} {tt : TT} (q : wi σ H (LcOf g tt te vs σ Q)) : tLc wi g tt te vs σ H Q := q
theorem rd_tyes {Q : Bool → Hp → Prop} (q : Q true H) : tYes σ H Q := q
theorem upd_ne_eq {H : Hp} {D a : Addr} {o : HO} (h : a ≠ D) : upd H D o a = H a := upd_ne h
/-- over a range, no test, an element that lays nothing -/
theorem lcR {lo : Int} {n k : Nat} (v : Nat → V) (hn : n ≤ 100000) (hw : ∀ x, wipe ((wipe σ vs).set k (some x)) vs = wipe σ vs)
    (el : ∀ i, i < n → ∀ (H' : Hp) (Q' : VK), Ex H H' → Q' (v i) H' → te ((wipe σ vs).set k (some (.int (lo + (i : Int))))) H' Q')
    (q : ∀ D, H D = none → Q (.ref D) (upd H D (.lst ((List.range n).map v)))) : LcOf (gName k) tYes te vs σ Q (Itr lo n) H := by
  intro D hD
  refine lc_range (lo := lo) (n := n) (fun i H' => H' = upd H D (.lst ((List.range i).map v))) rfl ?_ ?_
  · rintro i H' hi rfl
    refine ⟨hw _, rd_tyes (rd_T (el i hi _ _ (Ex.new hD) ⟨_, upd_same, ?_, ?_⟩))⟩
    · rw [List.length_map, List.length_range]
      exact line_lt (by omega)
    · rw [upd_upd, List.range_succ, List.map_append]
      rfl
  · rintro H' rfl
    exact q D hD
/-- over a range, no test, an element that may lay things -/
theorem lcRx {lo : Int} {n k : Nat} (P : V → Prop) (hn : n ≤ 100000) (hw : ∀ x, wipe ((wipe σ vs).set k (some x)) vs = wipe σ vs)
    (el : ∀ i, i < n → ∀ (H' : Hp) (Q' : VK), Ex H H' → (∀ v H2, Ex H' H2 → P v → Q' v H2) → te ((wipe σ vs).set k (some (.int (lo + (i : Int))))) H' Q')
    (q : ∀ D ws H', H D = none → Ex H H' → H' D = some (.lst ws) → ws.length = n → (∀ v ∈ ws, P v) → Q (.ref D) H') : LcOf (gName k) tYes te vs σ Q (Itr lo n) H := by
  intro D hD
  refine lc_range (lo := lo) (n := n) (fun i H' => Ex H H' ∧ ∃ ws, H' D = some (.lst ws) ∧ ws.length = i ∧ ∀ v ∈ ws, P v) ⟨Ex.new hD, [], upd_same, rfl, fun v hv => absurd hv List.not_mem_nil⟩ ?_ ?_
  · rintro i H' hi ⟨e, ws, hl, hlen, hp⟩
    refine ⟨hw _, rd_tyes (rd_T (el i hi _ _ e fun v H2 e2 pv => ?_))⟩
    refine ⟨ws, e2 _ _ hl, line_lt (by omega), (e.trans e2).mut hD, ws ++ [v], upd_same, by rw [List.length_append, hlen]; rfl, fun x hx => ?_⟩
    rcases List.mem_append.mp hx with hx | hx
    · exact hp x hx
    · rw [List.mem_singleton] at hx
      rw [hx]
      exact pv
  · rintro H' ⟨e, ws, hl, hlen, hp⟩
    exact q D ws H' hD e hl hlen hp
/-- over a list that stands, no test, an element that lays nothing -/
theorem lcL {a : Addr} {xs : List V} {k : Nat} (v : Nat → V) (hS : SqL K H a xs) (hn : xs.length ≤ 100000) (hw : ∀ x, wipe ((wipe σ vs).set k (some x)) vs = wipe σ vs)
    (el : ∀ i x, xs[i]? = some x → ∀ (H' : Hp) (Q' : VK), Ex H H' → Q' (v i) H' → te ((wipe σ vs).set k (some x)) H' Q')
    (q : ∀ D, H D = none → Q (.ref D) (upd H D (.lst ((List.range xs.length).map v)))) : LcOf (gName k) tYes te vs σ Q (Itl K a) H := by
  intro D hD
  refine lc_list (K := K) (a := a) (xs := xs) (fun i H' => H' = upd H D (.lst ((List.range i).map v))) rfl ?_ ?_ ?_
  · rintro i H' hi rfl
    exact (Ex.new hD).seqL hS
  · rintro i x H' hx rfl
    have hi : i < xs.length := (List.getElem?_eq_some_iff.mp hx).1
    refine ⟨hw _, rd_tyes (rd_T (el i x hx _ _ (Ex.new hD) ⟨_, upd_same, ?_, ?_⟩))⟩
    · rw [List.length_map, List.length_range]
      exact line_lt (by omega)
    · rw [upd_upd, List.range_succ, List.map_append]
      rfl
  · rintro H' rfl
    exact q D hD
end
end Pk
namespace Pk
open PySem PySem.Spec PyProof.Rows L2
/-! ### dicts -/
section
variable {σ : L2.St} {H : Hp} {Q : VK} {D : Ends} {td ty tv tx te : TE} {a b : Addr} {v : V} {k : Key} {ks : List Key} {kvs : List (Key × V)} {kvt : List (List Key × V)}
theorem rd_dput (q : tv σ H fun v H1 => td σ H1 fun x H2 => ty σ H2 fun y H3 => ∃ a H4, x = .ref a ∧ DPut H3 a y v H4 ∧ D.nx σ H4) : sDPut td ty tv D σ H := q
theorem rd_dget (q : td σ H fun x H1 => ty σ H1 fun y H2 => ∃ a v, x = .ref a ∧ DGet H2 a y (some v) ∧ Q v H2) : tDGet td ty σ H Q := q
theorem rd_dget2 (q : td σ H fun x H1 => ∃ a, x = .ref a ∧ IsD H1 a ∧ ty σ H1 fun y H2 => tx σ H2 fun z H3 => ∃ o, DGet H3 a y o ∧ Q (o.getD z) H3) : tDGet2 td ty tx σ H Q := q
theorem rd_din (q : ty σ H fun y H1 => td σ H1 fun x H2 => ∃ a o, x = .ref a ∧ DGet H2 a y o ∧ Q (.bl o.isSome) H2) : tDIn ty td σ H Q := q
theorem rd_dnotin (q : ty σ H fun y H1 => td σ H1 fun x H2 => ∃ a o, x = .ref a ∧ DGet H2 a y o ∧ Q (.bl (!o.isSome)) H2) : tDNotIn ty td σ H Q := q
theorem rd_dnewK (q : ∀ p, H p = none → Q (.ref p) (upd H p (.dK []))) : tDNewK σ H Q := q
theorem rd_dnewT (q : ∀ p, H p = none → Q (.ref p) (upd H p (.dT []))) : tDNewT σ H Q := q
theorem dgetT {ks : List Key} (e : H a = some (.dT kvt)) (eb : H b = some (.tup (ks.map kV))) (h : valV kvt ks = some v) : DGet H a (.ref b) (some v) := by
  rw [← h]
  exact DGet.t e eb
theorem dgetK (e : H a = some (.dK kvs)) (h : valV kvs k = some v) : DGet H a (kV k) (some v) := by
  rw [← h]
  exact DGet.k e
theorem rd_opt1 {B : Addr → V → Prop} (q : B a v) : ∃ p x, V.ref a = V.ref p ∧ B p x := ⟨a, v, rfl, q⟩
end
end Pk
namespace Pk
open PySem PySem.Spec PyProof.Rows L2
/-- a text that may be compared -/
def TOk (s : Str) : Prop := PySem.PyData.canLay0 (.str s) = true
theorem tok_of {s : Str} (h : ∀ c ∈ s.cps.toList, c < 0x110000) : TOk s := by
  unfold TOk
  rw [PyData.canLay0]
  show s.cps.all (fun x => decide (x < 0x110000)) = true
  rw [← Array.all_toList]
  exact List.all_eq_true.mpr fun c hc => decide_eq_true (h c hc)
theorem joinL_nil : ∀ ps : List (List Nat), TL.joinL [] ps = ps.flatten
  | [] => rfl
  | [p] => by simp [TL.joinL]
  | p :: q :: r => by
    show p ++ ([] ++ TL.joinL [] (q :: r)) = _
    rw [joinL_nil (q :: r)]
    simp
/-- single signs, joined -/
theorem join_signs (cs : List Nat) : (Txt.join "" (cs.map fun c => (⟨#[c]⟩ : Str))).cps.toList = cs := by
  rw [TL.join_eq]
  have z := TL.tl_join "" (cs.map fun c => (⟨#[c]⟩ : Str))
  have e : TL.tl "" = [] := rfl
  rw [e, joinL_nil, List.map_map] at z
  have z2 : (Str.join "" (cs.map fun c => (⟨#[c]⟩ : Str))).cps.toList = (cs.map (TL.tl ∘ fun c => (⟨#[c]⟩ : Str))).flatten := z
  rw [z2]
  induction cs with
  | nil => rfl
  | cons c r ih =>
    rw [List.map_cons, List.flatten_cons]
    have y : (TL.tl ∘ fun c => (⟨#[c]⟩ : Str)) c = [c] := rfl
    rw [y, ih]
    · rfl
    · exact (TL.tl_join "" _).trans (by rw [e, joinL_nil, List.map_map])
    · exact (TL.tl_join "" _).trans (by rw [e, joinL_nil, List.map_map])
theorem join_signs_len (cs : List Nat) : (Txt.join "" (cs.map fun c => (⟨#[c]⟩ : Str))).length = cs.length := by
  rw [TL.len_tl]
  exact congrArg List.length (join_signs cs)
/-- one sign of a text that is read -/
theorem rd_ixS {z : Str} {i : Int} {c : Nat} {H : Hp} {Q : VK} (hz : z.length ≤ sizeLine) (h : atI z.cps.toList i = some c) (q : Q (.str ⟨#[c]⟩) H) : rIxS (.str z) (.int i) H Q := ⟨z, i, c, rfl, rfl, hz, h, q⟩
theorem rd_m1 {σ : L2.St} {H : Hp} {Q : VK} {to te : TE} {r : V → List V → Hp → VK → Prop} (q : to σ H fun x H1 => (∃ a, x = .str a) ∧ te σ H1 fun y H2 => r x [y] H2 Q) : tM1 r to te σ H Q := q
theorem rd_isS {z : Str} {B : Prop} (q : B) : (∃ a, V.str z = V.str a) ∧ B := ⟨⟨z, rfl⟩, q⟩
theorem joinK (K : PySem.W.Frag) {X : Cx} {o e : Expr} {to te : TE} {apos pos : Pos} (ho : PE X o to) (he : PE X e te) (h : X.K = K := by rfl) (hs : starEach [e] X.env = [(false, eval e X.env)] := by rfl)
    (hbase : attributeBase o "join" X.env (eval o X.env) = eval o X.env := by rfl) (hline : (apos.endLine == pos.line) = true := by rfl) :
    PE X (.Call (.Attribute o "join" apos) [e] [] pos) (tM1 (fun x xs H Q => ∃ a p, ∃ ys : List Str, x = .str a ∧ xs = [.ref p] ∧ (SqL K H p (ys.map V.str) ∨ SqT K H p (ys.map V.str)) ∧
      (ys.map (·.length)).sum + ys.length * a.length ≤ 16777216 ∧ Q (.str (Txt.join a ys)) H) to te) := by
  subst h
  exact pe_join ho he hs hbase hline
/-- the signs of a drawn text -/
def signs : Str := Str.ofString " !#$&()*+,-./0123456789:;<=>?@ABCDEFGHIJKLMNOPQRSTUVWXYZ[]^_abcdefghijklmnopqrstuvwxyz{|}~"
theorem signs_len : signs.length = 90 := by decide +kernel
theorem signs_low : signs.cps.toList.all (fun c => decide (c < 128)) = true := by decide +kernel
theorem signs_at {i : Int} (h0 : 0 ≤ i) (h : i < 90) : ∃ c, atI signs.cps.toList i = some c ∧ c < 128 := by
  have hl : i.toNat < signs.cps.toList.length := by
    have := signs_len
    rw [TL.len_tl] at this
    have e : signs.cps.toList.length = 90 := this
    rw [e]
    omega
  refine ⟨_, at_int h0 (List.getElem?_eq_getElem hl), ?_⟩
  exact of_decide_eq_true (List.all_eq_true.mp signs_low _ (List.getElem_mem hl))
theorem rd_div {i j : Int} {g : Int → Int → V} {H : Hp} {Q : VK} (h : 0 < j ∧ j < 1073741824) (q : Q (g i j) H) : rI CDiv g (.int i) (.int j) H Q := rd_I (C := CDiv) h q
theorem rd_mod {i j : Int} {g : Int → Int → V} {H : Hp} {Q : VK} (h : 0 < j) (q : Q (g i j) H) : rI (fun _ j => 0 < j) g (.int i) (.int j) H Q := rd_I (C := fun _ j => 0 < j) h q
theorem rd_mul {i j : Int} {g : Int → Int → V} {H : Hp} {Q : VK} (h : (-(2 ^ 64) < i ∧ i < 2 ^ 64) ∨ (-(2 ^ 64) < j ∧ j < 2 ^ 64)) (q : Q (g i j) H) : rI CMul g (.int i) (.int j) H Q := rd_I (C := CMul) h q
end Pk
namespace Pk
/-! ### the longest common row of two lists, and the greedy pairs -/
section
variable {α : Type} [DecidableEq α]
def lcs : List α → List α → Nat
  | [], _ => 0
  | _ :: _, [] => 0
  | a :: as, b :: bs => max (max (lcs as (b :: bs)) (lcs (a :: as) bs)) (if a = b then 1 + lcs as bs else 0)
termination_by xs ys => xs.length + ys.length
def Lc (xs ys : List α) (i j : Nat) : Nat := lcs (xs.drop i) (ys.drop j)
theorem lcs_nil_left (ys : List α) : lcs [] ys = 0 := by unfold lcs; rfl
theorem lcs_nil_right (xs : List α) : lcs xs [] = 0 := by
  cases xs with
  | nil => unfold lcs; rfl
  | cons a as => unfold lcs; rfl
theorem lcs_cons (a b : α) (as bs : List α) : lcs (a :: as) (b :: bs) = max (max (lcs as (b :: bs)) (lcs (a :: as) bs)) (if a = b then 1 + lcs as bs else 0) := by
  rw [lcs]
theorem lcs_ge : ∀ (as bs s : List α), s.Sublist as → s.Sublist bs → s.length ≤ lcs as bs
  | [], bs, s, h1, h2 => by
    have e : s = [] := List.sublist_nil.mp h1
    subst e
    exact Nat.zero_le _
  | a :: as, [], s, h1, h2 => by
    have e : s = [] := List.sublist_nil.mp h2
    subst e
    exact Nat.zero_le _
  | a :: as, b :: bs, [], h1, h2 => Nat.zero_le _
  | a :: as, b :: bs, x :: s, h1, h2 => by
    rw [lcs_cons]
    by_cases ha : (x :: s).Sublist as
    · have z := lcs_ge as (b :: bs) (x :: s) ha h2
      omega
    · by_cases hb : (x :: s).Sublist bs
      · have z := lcs_ge (a :: as) bs (x :: s) h1 hb
        omega
      · have e1 : x = a ∧ s.Sublist as := by
          cases h1 with
          | cons _ h => exact absurd h ha
          | cons_cons _ h => exact ⟨rfl, h⟩
        have e2 : x = b ∧ s.Sublist bs := by
          cases h2 with
          | cons _ h => exact absurd h hb
          | cons_cons _ h => exact ⟨rfl, h⟩
        have z := lcs_ge as bs s e1.2 e2.2
        have e : a = b := e1.1.symm.trans e2.1
        rw [if_pos e, List.length_cons]
        omega
termination_by as bs => as.length + bs.length
theorem lcs_ex : ∀ (as bs : List α), ∃ s : List α, s.Sublist as ∧ s.Sublist bs ∧ s.length = lcs as bs
  | [], bs => ⟨[], List.Sublist.refl _, List.nil_sublist _, by rw [lcs_nil_left]; rfl⟩
  | a :: as, [] => ⟨[], List.nil_sublist _, List.Sublist.refl _, by rw [lcs_nil_right]; rfl⟩
  | a :: as, b :: bs => by
    obtain ⟨s1, p1, q1, e1⟩ := lcs_ex as (b :: bs)
    obtain ⟨s2, p2, q2, e2⟩ := lcs_ex (a :: as) bs
    obtain ⟨s3, p3, q3, e3⟩ := lcs_ex as bs
    rw [lcs_cons]
    by_cases e : a = b
    · rw [if_pos e]
      by_cases c1 : max (lcs as (b :: bs)) (lcs (a :: as) bs) ≤ 1 + lcs as bs
      · refine ⟨a :: s3, List.Sublist.cons_cons a p3, ?_, ?_⟩
        · rw [e]; exact List.Sublist.cons_cons b q3
        · rw [List.length_cons, e3]; omega
      · by_cases c2 : lcs as (b :: bs) ≤ lcs (a :: as) bs
        · exact ⟨s2, p2, q2.cons b, by omega⟩
        · exact ⟨s1, p1.cons a, q1, by omega⟩
    · rw [if_neg e]
      by_cases c2 : lcs as (b :: bs) ≤ lcs (a :: as) bs
      · exact ⟨s2, p2, q2.cons b, by omega⟩
      · exact ⟨s1, p1.cons a, q1, by omega⟩
termination_by as bs => as.length + bs.length
theorem lcs_reverse (as bs : List α) : lcs as.reverse bs.reverse = lcs as bs := by
  apply Nat.le_antisymm
  · obtain ⟨s, h1, h2, e⟩ := lcs_ex as.reverse bs.reverse
    have z := lcs_ge as bs s.reverse (by simpa using h1.reverse) (by simpa using h2.reverse)
    rw [List.length_reverse] at z
    omega
  · obtain ⟨s, h1, h2, e⟩ := lcs_ex as bs
    have z := lcs_ge as.reverse bs.reverse s.reverse h1.reverse h2.reverse
    rw [List.length_reverse] at z
    omega
variable {xs ys : List α}
theorem Lc_left {i j : Nat} (h : xs.length ≤ i) : Lc xs ys i j = 0 := by
  unfold Lc
  rw [List.drop_eq_nil_of_le h, lcs_nil_left]
theorem Lc_right {i j : Nat} (h : ys.length ≤ j) : Lc xs ys i j = 0 := by
  unfold Lc
  rw [List.drop_eq_nil_of_le h, lcs_nil_right]
theorem Lc_step {i j : Nat} (hi : i < xs.length) (hj : j < ys.length) :
    Lc xs ys i j = max (max (Lc xs ys (i + 1) j) (Lc xs ys i (j + 1))) (if xs[i] = ys[j] then 1 + Lc xs ys (i + 1) (j + 1) else 0) := by
  unfold Lc
  rw [List.drop_eq_getElem_cons hi, List.drop_eq_getElem_cons hj, lcs_cons]
theorem Lc_mono {i j k l : Nat} (h1 : i ≤ k) (h2 : j ≤ l) : Lc xs ys k l ≤ Lc xs ys i j := by
  unfold Lc
  obtain ⟨s, p, q, e⟩ := lcs_ex (xs.drop k) (ys.drop l)
  have d1 : (xs.drop k).Sublist (xs.drop i) := by
    obtain ⟨m, rfl⟩ := Nat.exists_eq_add_of_le h1
    rw [← List.drop_drop]
    exact List.drop_sublist _ _
  have d2 : (ys.drop l).Sublist (ys.drop j) := by
    obtain ⟨m, rfl⟩ := Nat.exists_eq_add_of_le h2
    rw [← List.drop_drop]
    exact List.drop_sublist _ _
  have z := lcs_ge _ _ s (p.trans d1) (q.trans d2)
  omega
/-- (i, j) begins as many pairs from (l, r) on as can be -/
def Hit (xs ys : List α) (l r i j : Nat) : Prop := l ≤ i ∧ r ≤ j ∧ i < xs.length ∧ j < ys.length ∧ xs[i]? = ys[j]? ∧ 1 + Lc xs ys (i + 1) (j + 1) = Lc xs ys l r
/-- the first of these, or none -/
def IsNext (xs ys : List α) (l r : Nat) : Option (Nat × Nat) → Prop
  | none => ∀ i j, ¬ Hit xs ys l r i j
  | some p => Hit xs ys l r p.1 p.2 ∧ ∀ i j, Hit xs ys l r i j → p.1 < i ∨ (p.1 = i ∧ p.2 ≤ j)
theorem Hit_ex : ∀ (n l r : Nat), xs.length - l + (ys.length - r) = n → 0 < Lc xs ys l r → ∃ i j, Hit xs ys l r i j := by
  intro n
  induction n with
  | zero =>
    intro l r e h
    rw [Lc_left (by omega)] at h
    omega
  | succ n ih =>
    intro l r e h
    by_cases hl : xs.length ≤ l
    · rw [Lc_left hl] at h
      omega
    · by_cases hr : ys.length ≤ r
      · rw [Lc_right hr] at h
        omega
      · have hl' : l < xs.length := by omega
        have hr' : r < ys.length := by omega
        have st := Lc_step (xs := xs) (ys := ys) hl' hr'
        by_cases c1 : Lc xs ys l r = Lc xs ys (l + 1) r
        · obtain ⟨i, j, h1, h2, h3, h4, h5, h6⟩ := ih (l + 1) r (by omega) (by omega)
          exact ⟨i, j, by omega, h2, h3, h4, h5, by omega⟩
        · by_cases c2 : Lc xs ys l r = Lc xs ys l (r + 1)
          · obtain ⟨i, j, h1, h2, h3, h4, h5, h6⟩ := ih l (r + 1) (by omega) (by omega)
            exact ⟨i, j, h1, by omega, h3, h4, h5, by omega⟩
          · by_cases q : xs[l] = ys[r]
            · rw [if_pos q] at st
              refine ⟨l, r, Nat.le_refl _, Nat.le_refl _, hl', hr', ?_, by omega⟩
              rw [List.getElem?_eq_getElem hl', List.getElem?_eq_getElem hr', q]
            · rw [if_neg q] at st
              omega
theorem IsNext.none_zero {l r : Nat} (h : IsNext xs ys l r none) : Lc xs ys l r = 0 := by
  rcases Nat.eq_zero_or_pos (Lc xs ys l r) with e | e
  · exact e
  · obtain ⟨i, j, q⟩ := Hit_ex _ l r rfl e
    exact absurd q (h i j)
theorem IsNext.some_eq {l r i j : Nat} (h : IsNext xs ys l r (some (i, j))) : 1 + Lc xs ys (i + 1) (j + 1) = Lc xs ys l r := h.1.2.2.2.2.2
theorem IsNext.unique {l r : Nat} {o o' : Option (Nat × Nat)} (h : IsNext xs ys l r o) (h' : IsNext xs ys l r o') : o = o' := by
  cases o with
  | none =>
    cases o' with
    | none => rfl
    | some p => exact absurd h'.1 (h p.1 p.2)
  | some p =>
    cases o' with
    | none => exact absurd h.1 (h' p.1 p.2)
    | some q =>
      obtain ⟨p1, p2⟩ := p
      obtain ⟨q1, q2⟩ := q
      have a := h.2 _ _ h'.1
      have b := h'.2 _ _ h.1
      simp only at a b
      have e1 : p1 = q1 := by omega
      have e2 : p2 = q2 := by omega
      rw [e1, e2]
/-- the greedy pairs from (l, r) on -/
inductive Kept (xs ys : List α) : Nat → Nat → List (Nat × Nat) → Prop
  | nil {l r : Nat} : IsNext xs ys l r none → Kept xs ys l r []
  | cons {l r i j : Nat} {t : List (Nat × Nat)} : IsNext xs ys l r (some (i, j)) → Kept xs ys (i + 1) (j + 1) t → Kept xs ys l r ((i, j) :: t)
theorem Kept.length {l r : Nat} {f : List (Nat × Nat)} (h : Kept xs ys l r f) : f.length = Lc xs ys l r := by
  induction h with
  | nil h => rw [h.none_zero]; rfl
  | cons h _ ih => rw [List.length_cons, ih]; have := h.some_eq; omega
theorem Kept.unique {l r : Nat} {f g : List (Nat × Nat)} (h : Kept xs ys l r f) (h' : Kept xs ys l r g) : f = g := by
  induction h generalizing g with
  | nil h =>
    cases h' with
    | nil _ => rfl
    | cons q _ => exact nomatch h.unique q
  | cons h _ ih =>
    cases h' with
    | nil q => exact nomatch h.unique q
    | cons q s =>
      have e := h.unique q
      cases e
      rw [ih s]
/-- from the k-th pair on -/
theorem Kept.drop {l r : Nat} {f : List (Nat × Nat)} (h : Kept xs ys l r f) : ∀ {k : Nat} {p : Nat × Nat}, f[k]? = some p →
    ∃ l' r', IsNext xs ys l' r' (some p) ∧ Lc xs ys l' r' = f.length - k ∧ l ≤ l' ∧ r ≤ r' ∧ (k = 0 → l' = l ∧ r' = r) ∧ (∀ q, 0 < k → f[k - 1]? = some q → l' = q.1 + 1 ∧ r' = q.2 + 1) := by
  induction h with
  | nil h => intro k p e; simp at e
  | cons h s ih =>
    rename_i l r i j t
    intro k p e
    cases k with
    | zero =>
      simp only [List.getElem?_cons_zero, Option.some.injEq] at e
      subst e
      refine ⟨l, r, h, ?_, Nat.le_refl _, Nat.le_refl _, fun _ => ⟨rfl, rfl⟩, fun q hq => absurd hq (by omega)⟩
      rw [List.length_cons, s.length]
      have := h.some_eq
      omega
    | succ k =>
      rw [List.getElem?_cons_succ] at e
      obtain ⟨l', r', h1, h2, h3, h4, h5, h6⟩ := ih e
      have hh := h.1
      obtain ⟨a1, a2, _⟩ := hh
      simp only at a1 a2
      refine ⟨l', r', h1, by rw [List.length_cons]; omega, by omega, by omega, fun z => absurd z (by omega), fun q _ hq => ?_⟩
      cases k with
      | zero =>
        simp only [Nat.zero_add, Nat.sub_self, List.getElem?_cons_zero, Option.some.injEq] at hq
        subst hq
        exact h5 rfl
      | succ k =>
        have z : k + 1 + 1 - 1 = (k + 1 - 1) + 1 := by omega
        rw [z, List.getElem?_cons_succ] at hq
        exact h6 q (by omega) hq
end
end Pk
namespace Pk
section
variable {α : Type} [DecidableEq α] (xs ys : List α)
/-- the longest common row of the first t and the first k -/
def Pre (t k : Nat) : Nat := lcs (xs.take t).reverse (ys.take k).reverse
theorem Pre_zero_left (k : Nat) : Pre xs ys 0 k = 0 := by
  unfold Pre
  rw [List.take_zero, List.reverse_nil, lcs_nil_left]
theorem Pre_zero_right (t : Nat) : Pre xs ys t 0 = 0 := by
  unfold Pre
  rw [List.take_zero, List.reverse_nil, lcs_nil_right]
theorem take_succ_rev {α : Type} {l : List α} {t : Nat} (h : t < l.length) : (l.take (t + 1)).reverse = l[t] :: (l.take t).reverse := by
  rw [List.take_succ_eq_append_getElem h, List.reverse_append]
  rfl
theorem Pre_step {t k : Nat} (ht : t < xs.length) (hk : k < ys.length) :
    Pre xs ys (t + 1) (k + 1) = max (max (Pre xs ys t (k + 1)) (Pre xs ys (t + 1) k)) (if xs[t] = ys[k] then 1 + Pre xs ys t k else 0) := by
  unfold Pre
  rw [take_succ_rev ht, take_succ_rev hk, lcs_cons]
theorem Pre_end : Pre xs ys xs.length ys.length = Lc xs ys 0 0 := by
  unfold Pre Lc
  rw [List.take_length, List.take_length, lcs_reverse, List.drop_zero, List.drop_zero]
end
end Pk
namespace Pk
open PySem PySem.Spec PyProof.Rows L2
/-- a list of lists of ints: n + 1 rows of m + 1, f i j at (i, j) -/
structure Tab (H : Hp) (r : Addr) (rs : List Addr) (n m : Nat) (f : Nat → Nat → Nat) : Prop where
  top : H r = some (.lst (rs.map V.ref))
  len : rs.length = n + 1
  nd : rs.Nodup
  row : ∀ i, (h : i < rs.length) → H rs[i] = some (.lst ((List.range (m + 1)).map fun j => V.int (f i j : Nat)))
theorem Tab.ex {H H1 : Hp} {r : Addr} {rs : List Addr} {n m : Nat} {f : Nat → Nat → Nat} (t : Tab H r rs n m f) (e : Ex H H1) : Tab H1 r rs n m f :=
  ⟨e _ _ t.top, t.len, t.nd, fun i h => e _ _ (t.row i h)⟩
/-- the row at i, its item at j -/
theorem Tab.get1 {H : Hp} {r : Addr} {rs : List Addr} {n m : Nat} {f : Nat → Nat → Nat} (t : Tab H r rs n m f) {i : Nat} (hi : i ≤ n) :
    ∃ a, atI (rs.map V.ref) (i : Int) = some (.ref a) ∧ rs[i]? = some a ∧ H a = some (.lst ((List.range (m + 1)).map fun j => V.int (f i j : Nat))) := by
  have h : i < rs.length := by rw [t.len]; omega
  exact ⟨rs[i], at_mapN h, List.getElem?_eq_getElem h, t.row i h⟩
theorem Tab.get2 {m i j : Nat} {f : Nat → Nat → Nat} (hj : j ≤ m) : atI ((List.range (m + 1)).map fun j => V.int (f i j : Nat)) (j : Int) = some (.int (f i j : Nat)) := by
  have h : j < (List.range (m + 1)).length := by rw [List.length_range]; omega
  have z := at_mapN (f := fun j => V.int (f i j : Nat)) h
  rw [List.getElem_range] at z
  exact z
theorem Tab.put {H : Hp} {r : Addr} {rs : List Addr} {n m : Nat} {f : Nat → Nat → Nat} (t : Tab H r rs n m f) {i j v : Nat} {a : Addr} (ha : rs[i]? = some a) :
    Tab (upd H a (.lst (((List.range (m + 1)).map fun j => V.int (f i j : Nat)).set j (.int (v : Nat))))) r rs n m (fun i' j' => if i' = i ∧ j' = j then v else f i' j') := by
  have hi : i < rs.length := (List.getElem?_eq_some_iff.mp ha).1
  have ea : rs[i] = a := (List.getElem?_eq_some_iff.mp ha).2
  have hra : r ≠ a := by
    have q := t.row i hi
    rw [ea] at q
    refine ne_of t.top q fun z => ?_
    have z1 := HO.lst.inj z
    have z2 : rs.map V.ref ≠ [] := by
      intro w
      rw [List.map_eq_nil_iff] at w
      rw [w] at hi
      exact absurd hi (by simp)
    cases rs with
    | nil => exact z2 rfl
    | cons b bs =>
      rw [List.map_cons, List.range_succ_eq_map, List.map_cons] at z1
      cases (List.cons.inj z1).1
  refine ⟨by rw [upd_ne hra]; exact t.top, t.len, t.nd, fun k hk => ?_⟩
  by_cases c : k = i
  · subst c
    rw [ea, upd_same]
    congr 2
    apply List.ext_getElem
    · simp
    · intro l h1 h2
      rw [List.getElem_set]
      simp only [List.getElem_map, List.getElem_range, true_and]
      by_cases d : j = l
      · subst d
        simp
      · rw [if_neg d, if_neg (fun w => d w.symm)]
  · have hne : rs[k] ≠ a := by
      rw [← ea]
      intro w
      exact c ((List.getElem_inj t.nd).mp w)
    rw [upd_ne hne]
    have q := t.row k hk
    rw [q]
    congr 2
    apply List.map_congr_left
    intro l _
    rw [if_neg (fun w => c w.1)]
end Pk
namespace Pk
open PySem PySem.Spec PyProof.Rows L2
/-- a row of pairs of numbers, each a tuple -/
structure Prs (H : Hp) (ts : List Addr) (fs : List (Nat × Nat)) : Prop where
  len : ts.length = fs.length
  at_ : ∀ (k i j : Nat), fs[k]? = some (i, j) → ∃ t, ts[k]? = some t ∧ H t = some (.tup [.int (i : Int), .int (j : Int)])
theorem Prs.nil {H : Hp} : Prs H [] [] := ⟨rfl, fun k i j h => by simp at h⟩
theorem Prs.ex {H H1 : Hp} {ts : List Addr} {fs : List (Nat × Nat)} (p : Prs H ts fs) (e : Ex H H1) : Prs H1 ts fs :=
  ⟨p.len, fun k i j h => let ⟨t, a, b⟩ := p.at_ k i j h; ⟨t, a, e _ _ b⟩⟩
/-- where one object that is no tuple changes -/
theorem Prs.upd {H : Hp} {ts : List Addr} {fs : List (Nat × Nat)} {q : Addr} {xs : List V} {o : HO} (p : Prs H ts fs) (h : H q = some (.lst xs)) : Prs (upd H q o) ts fs :=
  ⟨p.len, fun k i j g => by
    obtain ⟨t, a, b⟩ := p.at_ k i j g
    exact ⟨t, a, by rw [upd_ne (ne_of b h (by intro z; cases z))]; exact b⟩⟩
theorem Prs.snoc {H : Hp} {ts : List Addr} {fs : List (Nat × Nat)} {t : Addr} {i j : Nat} (p : Prs H ts fs) (h : H t = some (.tup [.int (i : Int), .int (j : Int)])) : Prs H (ts ++ [t]) (fs ++ [(i, j)]) := by
  refine ⟨by rw [List.length_append, List.length_append, p.len]; rfl, fun k a b g => ?_⟩
  by_cases c : k < fs.length
  · rw [List.getElem?_append_left c] at g
    obtain ⟨t', a', b'⟩ := p.at_ k a b g
    exact ⟨t', by rw [List.getElem?_append_left (by rw [p.len]; exact c)]; exact a', b'⟩
  · have hk : k < (fs ++ [(i, j)]).length := (List.getElem?_eq_some_iff.mp g).1
    have ek : k = fs.length := by
      rw [List.length_append] at hk
      simp at hk
      omega
    subst ek
    rw [List.getElem?_append_right (Nat.le_refl _)] at g
    simp only [Nat.sub_self, List.getElem?_cons_zero, Option.some.injEq, Prod.mk.injEq] at g
    refine ⟨t, ?_, ?_⟩
    · rw [List.getElem?_append_right (by rw [p.len]; exact Nat.le_refl _), p.len]
      simp
    · rw [← g.1, ← g.2]
      exact h
/-- None or a pair -/
def PairV (H : Hp) : V → Option (Nat × Nat) → Prop
  | v, none => v = .non
  | v, some p => ∃ t, v = .ref t ∧ H t = some (.tup [.int (p.1 : Int), .int (p.2 : Int)])
theorem PairV.ex {H H1 : Hp} {v : V} {o : Option (Nat × Nat)} (p : PairV H v o) (e : Ex H H1) : PairV H1 v o := by
  cases o with
  | none => exact p
  | some q =>
    obtain ⟨t, a, b⟩ := p
    exact ⟨t, a, e _ _ b⟩
end Pk
namespace Pk
open PySem PySem.Spec PyProof.Rows L2
/-- the key (i, j) -/
def kk (i j : Nat) : List Key := [Sum.inl (i : Int), Sum.inl (j : Int)]
theorem kk_tup (i j : Nat) : (kk i j).map kV = [V.int (i : Int), V.int (j : Int)] := rfl
theorem kk_inj {i j k l : Nat} (h : kk i j = kk k l) : i = k ∧ j = l := by
  unfold kk at h
  injection h with h1 h2
  injection h2 with h2 _
  have a := Sum.inl.inj h1
  have b := Sum.inl.inj h2
  exact ⟨by omega, by omega⟩
/-- a dict with pairs of numbers as keys: f i j at the pairs that are done -/
structure Grid (kvs : List (List Key × V)) (d : Nat → Nat → Prop) (f : Nat → Nat → Nat) : Prop where
  yes : ∀ i j, d i j → valV kvs (kk i j) = some (.int (f i j : Nat))
  no : ∀ i j, ¬ d i j → valV kvs (kk i j) = none
theorem Grid.nil {f : Nat → Nat → Nat} : Grid [] (fun _ _ => False) f := ⟨fun _ _ h => h.elim, fun _ _ _ => valV_nil⟩
theorem Grid.put {kvs : List (List Key × V)} {d : Nat → Nat → Prop} {f : Nat → Nat → Nat} (g : Grid kvs d f) (i j v : Nat) :
    Grid (putK kvs (kk i j) (.int (v : Nat))) (fun i' j' => (i' = i ∧ j' = j) ∨ d i' j') (fun i' j' => if i' = i ∧ j' = j then v else f i' j') := by
  refine ⟨fun i' j' h => ?_, fun i' j' h => ?_⟩
  · rw [valV_put]
    by_cases c : i' = i ∧ j' = j
    · rw [if_pos (by rw [c.1, c.2]), if_pos c]
    · rw [if_neg (fun z => c (kk_inj z)), if_neg c]
      exact g.yes i' j' (h.resolve_left c)
  · rw [valV_put, if_neg (fun z => h (.inl (kk_inj z)))]
    exact g.no i' j' fun z => h (.inr z)
theorem Grid.same {kvs : List (List Key × V)} {d d' : Nat → Nat → Prop} {f f' : Nat → Nat → Nat} (g : Grid kvs d f) (h : ∀ i j, d i j ↔ d' i j) (e : ∀ i j, d' i j → f i j = f' i j) : Grid kvs d' f' :=
  ⟨fun i j q => by rw [← e i j q]; exact g.yes i j ((h i j).mpr q), fun i j q => g.no i j fun z => q ((h i j).mp z)⟩
theorem Grid.get0 {kvs : List (List Key × V)} {d : Nat → Nat → Prop} {f : Nat → Nat → Nat} (g : Grid kvs d f) {i j v : Nat} (h1 : d i j → f i j = v) (h2 : ¬ d i j → v = 0) : (valV kvs (kk i j)).getD (.int 0) = .int (v : Nat) := by
  by_cases c : d i j
  · rw [g.yes i j c, h1 c]
    rfl
  · rw [g.no i j c, h2 c]
    rfl
end Pk
namespace Pk
open PySem PySem.Spec PyProof.Rows L2
section
variable {σ : L2.St} {H : Hp} {Q : VK} {K : PySem.W.Frag} {te : TE} {tl th : TO} {a b : Addr} {x y : V} {xs zs : List V} {lo hi : Option Int}
theorem rd_sl {r : V → Option Int → Option Int → Hp → VK → Prop} (q : te σ H fun x H1 => tl σ H1 fun lo H2 => th σ H2 fun hi H3 => r x lo hi H3 Q) : tSl r te tl th σ H Q := q
theorem rd_part {Q : Option Int → Hp → Prop} (q : te σ H fun x H1 => ∃ i, x = .int i ∧ Q (some i) H1) : tPart te σ H Q := q
theorem rd_nopart {Q : Option Int → Hp → Prop} (q : Q none H) : tNoPart σ H Q := q
theorem rd_slL (h : SqL K H a xs) (q : ∀ p, H p = none → Q (.ref p) (upd H p (.lst (cutV xs lo hi)))) : rSlL K (.ref a) lo hi H Q := ⟨a, xs, rfl, h, q⟩
theorem rd_cat (h1 : H a = some (.lst xs)) (h2 : H b = some (.lst zs)) (h : xs.length + zs.length ≤ sizeLine) (q : ∀ p, H p = none → Q (.ref p) (upd H p (.lst (xs ++ zs)))) : rCat (.ref a) (.ref b) H Q :=
  ⟨a, b, xs, zs, rfl, rfl, h1, h2, h, q⟩
theorem cut_to {α : Type} (f : α → V) (xs : List α) (k : Nat) : cutV (xs.map f) none (some (k : Int)) = (xs.take k).map f := by
  unfold cutV
  rw [HT.sIx_none, HT.sIx_nat, List.drop_zero, Nat.sub_zero, List.length_map, List.map_take]
  by_cases h : k ≤ xs.length
  · rw [Nat.min_eq_left h]
  · rw [Nat.min_eq_right (by omega), List.take_of_length_le (by rw [List.length_map]; omega), List.take_of_length_le (by rw [List.length_map]; omega)]
theorem cut_from {α : Type} (f : α → V) (xs : List α) (k : Nat) : cutV (xs.map f) (some (k : Int)) none = (xs.drop k).map f := by
  unfold cutV
  rw [HT.sIx_none, HT.sIx_nat, List.length_map, List.map_drop]
  by_cases h : k ≤ xs.length
  · rw [Nat.min_eq_left h, List.take_of_length_le]
    rw [List.length_drop, List.length_map]
    omega
  · rw [Nat.min_eq_right (by omega), List.drop_eq_nil_of_le (by rw [List.length_map]; omega), List.drop_eq_nil_of_le (by rw [List.length_map]; omega), List.take_nil]
theorem dp_strs : ∀ xs : List Str, DpAll K H (xs.map V.str) (xs.map PyData.str)
  | [] => .nil
  | x :: xs => .cons (.str x) (dp_strs xs)
theorem lay_strs : ∀ xs : List Str, (∀ t ∈ xs, TOk t) → PyData.canLayAll0 (xs.map PyData.str) = true
  | [], _ => by simp [PyData.canLayAll0]
  | x :: xs, h => by
    have h1 : PyData.canLay0 (.str x) = true := h x List.mem_cons_self
    have h2 := lay_strs xs fun t m => h t (List.mem_cons_of_mem _ m)
    rw [List.map_cons, PyData.canLayAll0, h1, h2]
    rfl
theorem depth_strs : ∀ xs : List Str, PyData.depthAll (xs.map PyData.str) ≤ 1
  | [] => by simp [PyData.depthAll]
  | x :: xs => by
    have h1 := depth_strs xs
    simp only [List.map_cons, PyData.depthAll, PyData.depth]
    omega
theorem shaped_of {d : PyData} (h1 : d.canLay0 = true) (h2 : d.depth ≤ 64) : SeqAt.shaped d = true := by
  show (d.canLay0 && decide (d.depth ≤ 64)) = true
  rw [h1, decide_eq_true h2]
  rfl
/-- a list of two lists of texts -/
theorem shaped_two {xs ys : List Str} (hx : ∀ t ∈ xs, TOk t) (hy : ∀ t ∈ ys, TOk t) : SeqAt.shaped (.list [.list (xs.map PyData.str), .list (ys.map PyData.str)]) = true := by
  have a := depth_strs xs
  have b := depth_strs ys
  refine shaped_of ?_ ?_
  · simp only [PyData.canLay0, PyData.canLayAll0, lay_strs xs hx, lay_strs ys hy]
    rfl
  · simp only [PyData.depth, PyData.depthAll]
    omega
/-- a pair of numbers, as data -/
def pD (z : Nat × Nat) : PyData := .tuple [.int (z.1 : Int), .int (z.2 : Int)]
theorem pDs_lay : ∀ zs : List (Nat × Nat), PyData.canLayAll0 (zs.map pD) = true
  | [] => by simp [PyData.canLayAll0]
  | z :: zs => by simp [PyData.canLayAll0, pD, PyData.canLay0, pDs_lay zs]
theorem pDs_depth : ∀ zs : List (Nat × Nat), PyData.depthAll (zs.map pD) ≤ 2
  | [] => by simp [PyData.depthAll]
  | z :: zs => by
    have h1 := pDs_depth zs
    simp only [List.map_cons, PyData.depthAll, pD, PyData.depth]
    omega
theorem pDs_shaped (zs : List (Nat × Nat)) : SeqAt.shaped (.list (zs.map pD)) = true := by
  have h1 := pDs_depth zs
  refine shaped_of ?_ ?_
  · simp only [PyData.canLay0]
    exact pDs_lay zs
  · simp only [PyData.depth]
    omega
theorem Prs.dps : ∀ {ts : List Addr} {fs : List (Nat × Nat)}, Prs H ts fs → DpAll K H (ts.map V.ref) (fs.map pD)
  | [], [], _ => .nil
  | [], _ :: _, p => absurd p.len (by simp)
  | _ :: _, [], p => absurd p.len (by simp)
  | t :: ts, (i, j) :: fs, p => by
    obtain ⟨t', h1, h2⟩ := p.at_ 0 i j rfl
    cases h1
    have pr : Prs H ts fs := ⟨by simpa using p.len, fun k a b g => p.at_ (k + 1) a b (by rw [List.getElem?_cons_succ]; exact g)⟩
    exact .cons (.tup (SqT.of h2) (.cons (.int _) (.cons (.int _) .nil))) pr.dps
theorem rd_eqSelf {d : PyData} (h1 : Dp K H x d) (h2 : Dp K H y d) (hs : SeqAt.shaped d = true) (q : Q (.bl true) H) : rEqD K x y H Q :=
  ⟨d, d, h1, h2, hs, hs, by rw [SeqAt.eqv_refl d (SeqAt.canLay_of_shaped hs)]; exact q⟩
theorem rd_neSelf {d : PyData} (h1 : Dp K H x d) (h2 : Dp K H y d) (hs : SeqAt.shaped d = true) (q : Q (.bl false) H) : rNeD K x y H Q :=
  ⟨d, d, h1, h2, hs, hs, by rw [SeqAt.eqv_refl d (SeqAt.canLay_of_shaped hs)]; exact q⟩
end
end Pk
namespace Pk
open PySem PySem.Spec PyProof.Rows L2
/-- where a list changes -/
theorem Prs.mutL {H H1 : Hp} {ts : List Addr} {fs : List (Nat × Nat)} {q : Addr} {xs : List V} (p : Prs H ts fs) (h : H q = some (.lst xs)) (m : ∀ a x, a ≠ q → H a = some x → H1 a = some x) : Prs H1 ts fs :=
  ⟨p.len, fun k i j g => by
    obtain ⟨t, a, b⟩ := p.at_ k i j g
    exact ⟨t, a, m _ _ (ne_of b h (by intro z; cases z)) b⟩⟩
end Pk
namespace Pk
open PySem PySem.Spec PyProof.Rows L2
/-! ### what is not reached -/
section
variable {X : Cx} {e : Expr} {b : List Stmt} {s : Stmt}
def tNev : TE := fun _ _ _ => False
def tNevT : TT := fun _ _ _ => False
def tNevS : TS := fun _ _ _ => False
theorem pe_never : PE X e tNev := ⟨fun _ _ _ _ _ _ z => False.elim z⟩
theorem pt_never : PT X e tNevT := ⟨fun _ _ _ _ _ _ z => False.elim z⟩
theorem ps_never : PS X s tNevS := ⟨fun _ _ _ _ _ _ z => False.elim z⟩
theorem pss_never : PSs X b tNevS := ⟨fun _ _ _ _ _ _ z => False.elim z⟩
end
section
variable {σ : L2.St} {H : Hp} {Q : VK} {D : Ends} {g : TG} {tb : TS} {tt : TT} {te : TE} {vs : List Nat} {J : It} {K : PySem.W.Frag}
/-- a loop without turns -/
theorem for_none (h : J.stop 0 H) (q : D.nx σ H) : ForOf g tb D σ J H := by
  refine ⟨fun i _ σ' H' => i = 0 ∧ σ' = σ ∧ H' = H, ⟨0, rfl, rfl, rfl⟩, ?_⟩
  rintro i m σ' H' ⟨rfl, rfl, rfl⟩
  exact .inl ⟨h, q⟩
theorem lc_none (h : ∀ p, H p = none → J.stop 0 (upd H p (.lst []))) (q : ∀ p, H p = none → Q (.ref p) (upd H p (.lst []))) : LcOf g tt te vs σ Q J H := by
  intro p hp
  refine ⟨fun i _ H' => i = 0 ∧ H' = upd H p (.lst []), ⟨0, rfl, rfl⟩, ?_⟩
  rintro i m H' ⟨rfl, rfl⟩
  exact .inl ⟨h p hp, q p hp⟩
theorem stopL {a : Addr} (h : SqL K H a []) : (Itl K a).stop 0 H := ⟨[], h, Nat.le_refl _⟩
theorem stopV {a : Addr} : (Itv K a ([] : List V).length).stop 0 H := Nat.le_refl 0
theorem stopK {d : Addr} {o : Obj} (h : H d = some (.frz o (.dK []))) : (Itk d o []).stop 0 H := ⟨h, Nat.le_refl 0⟩
/-- over the signs of a text -/
theorem for_strW {x : Str} (Pv : Nat → L2.St → Hp → Prop) (h0 : Pv 0 σ H)
    (hs : ∀ i c σ H, x.cps[i]? = some c → Pv i σ H → g (.str ⟨#[c]⟩) σ H fun σ2 H2 => tb { D with nx := Pv (i + 1), ct := Pv (i + 1), bk := D.nx } σ2 H2) (hd : ∀ σ H, Pv x.cps.size σ H → D.nx σ H) : ForOf g tb D σ (Its x) H := by
  refine ⟨fun i m σ' H' => m = x.cps.size - i ∧ i ≤ x.cps.size ∧ Pv i σ' H', ⟨x.cps.size, by simp, Nat.zero_le _, h0⟩, ?_⟩
  rintro i m σ' H' ⟨rfl, hi, p⟩
  by_cases c : i < x.cps.size
  · refine .inr ⟨c, Pv (i + 1), fun σ2 H2 z => ⟨x.cps.size - (i + 1), by omega, rfl, by omega, z⟩, ?_⟩
    rintro v H2 ⟨rfl, d, hd2, rfl⟩
    exact hs i d σ' H2 hd2 p
  · have e : i = x.cps.size := by omega
    subst e
    exact .inl ⟨Nat.le_refl _, hd _ _ p⟩
theorem upd_swap {p d : Addr} {o u : HO} (h : p ≠ d) : upd (upd H p o) d u = upd (upd H d u) p o := by
  funext x
  by_cases c1 : x = d
  · subst c1
    rw [upd_same, upd_ne (fun z => h z.symm), upd_same]
  · by_cases c2 : x = p
    · subst c2
      rw [upd_ne c1, upd_same, upd_same]
    · rw [upd_ne c1, upd_ne c2, upd_ne c2, upd_ne c1]
theorem upd_back {d : Addr} {u : HO} (h : H d = some u) : upd H d u = H := by
  funext x
  by_cases c : x = d
  · subst c
    rw [upd_same, h]
  · rw [upd_ne c]
/-- a comprehension over the keys of an empty dict -/
theorem lock_none {td : TE} {d : Addr} (hd : H d = some (.dK [])) (ht : ∀ (od : Obj) (Q' : VK), Q' (.ref d) (upd H d (.frz od (.dK []))) → td σ (upd H d (.frz od (.dK []))) Q')
    (q : ∀ p, H p = none → Q (.ref p) (upd H p (.lst []))) : tLockE (tLc (iKeys td) g tt te vs) σ H Q := by
  refine ⟨d, _, hd, ?_, fun od => rd_lc (ht od _ ⟨d, od, rfl, .inl ⟨[], upd_same, lc_none (fun p hp => ?_) fun p hp => ?_⟩⟩)⟩
  · trivial
  · have ne : d ≠ p := by
      rintro rfl
      rw [upd_same] at hp
      cases hp
    exact stopK (by rw [upd_ne ne, upd_same])
  · have ne : p ≠ d := by
      rintro rfl
      rw [upd_same] at hp
      cases hp
    refine ⟨by rw [upd_ne (fun z => ne z.symm), upd_same], ?_⟩
    rw [upd_swap ne, upd_upd, upd_back hd]
    rw [upd_ne ne] at hp
    exact q p hp
end
end Pk
namespace Pk
open PySem PySem.Spec PyProof.Rows L2 L2H HotX
/-! ### a def that is called while one exception, known in full, is handled -/
structure FnP (P : Program) (w : World) (K : PySem.W.Frag) (mg : Str → Option Value) (base : Heap) (C : CXT) (n : Nat) (g : Addr) (gd : FuncData) (qs : List Str) (sp : Sp) (pin : Addr × Obj) : Prop where
  len : ∀ vs H Q E, sp vs H Q E → vs.length = qs.length
  run : ∀ (B : Around) (fr : List Env) (s : Shared) (H : Hp) (ar : Args) (us : List Value) (vs : List V) (Q : VK) (E : XK), RoomH n B → Hot1 B pin → PinOk fr H s pin → Env0 P w K mg base B fr s H → BindsTo s gd ar (qs.zip us) → Vals vs us → sp vs H Q E →
    codeAny (model P w) B (.call (.ref g) ar) (CR C fr P w H s Q E) s
theorem FnP.of {P : Program} {w : World} {K : PySem.W.Frag} {mg : Str → Option Value} {base : Heap} {C : CXT} {n : Nat} {x ql : Str} {pr : Arguments} {bd : List Stmt} {sco : Scope} {dvs : List V} {kws : List (Str × V)} {g : Addr} {gd : FuncData} {N qs : List Str} {sp : Sp} {pin : Addr × Obj}
    (F : FunD K x ql pr bd sco dvs kws g gd) (S : FnScope N qs sco) (len : ∀ vs H Q E, sp vs H Q E → vs.length = qs.length)
    (hb : ∀ (cv : Value) (B : Around) (fr : List Env) (s : Shared) (H : Hp) (vs : List V) (Q : VK) (E : XK), Hot1 B pin → RoomH n (B.deeper (envOfC ql sco s.heap.objs.size g cv)) → sp vs H Q E →
      ∃ t, PSs (cxH C P w K mg base N ql sco g cv B fr s H E pin) bd t ∧ t { nx := fun _ H' => Q .non H', rt := Q } (L2.start N vs) H) : FnP P w K mg base C (n + 1) g gd qs sp pin := by
  obtain ⟨oc, od, dV, kV, doc, pm, an, cv, ct, osl, rfl, lk, hcd, _, _⟩ := F.ex
  refine ⟨len, fun B fr s H ar us vs Q E room hot hpin e0 bnd rv hsp => ?_⟩
  have vl := len _ _ _ _ hsp
  have inK : K.In s.heap := e0.mod.kin.keeps fun b o e => (e0.bs b o e).1
  have nl : s.heap.NoLimit := e0.mod.nolimit.keeps fun b o e => (e0.bs b o e).1
  have kinds : ∀ y ∈ qs.zip us, sco.names.lookup y.1 = some .local ∨ (sco.names.lookup y.1 = some .cell ∧ ((cellsFrom (s.heap.objs.size + 1) sco.names []).lookup y.1).isSome = true) := by
    rintro ⟨m, v⟩ hy
    rcases S.par m (List.of_mem_zip hy).1 with q | q
    · exact Or.inl q
    · exact Or.inr ⟨q, PySem.W.cellsFrom_some _ _ _ (Or.inl q)⟩
  refine codeAny_call_function room.depth (inK _ _ lk) rfl S.co S.gen rfl (PySem.W.codeRec_of inK hcd) (bnd _ _ _ _ ?_)
  refine wpAny_newFunctionEnv_cells S.kind kinds fun env henv s1 ic => ?_
  subst henv
  refine ⟨nl.keeps ic.toInCall.keep, codeAny_func ?_⟩
  obtain ⟨t, ht, hq⟩ := hb cv B fr s H vs Q E hot (room.deeper _) hsp
  have I := inv_startH (CX := C) (P := P) (w := w) (K := K) (mg := mg) (base := base) (E := E) S hpin e0 vl rv ic
  refine wpAny_mono (ht.run [] s1 (L2.start N vs) H _ I hq) (fun fl s' z => ?_) fun e s' z => z
  cases fl with
  | ret u =>
    obtain ⟨v, σ', H', J, ru, q⟩ := z
    exact ⟨v, H', J.os, J.bare, J.base, J.hok, ru, q⟩
  | next =>
    obtain ⟨σ', H', J, q⟩ := z
    exact ⟨V.non, H', J.os, J.bare, J.base, J.hok, rfl, q⟩
  | brk =>
    obtain ⟨_, _, _, q⟩ := z
    exact q.elim
  | cont =>
    obtain ⟨_, _, _, q⟩ := z
    exact q.elim
section
variable {X : Cx} {C : CXT} {n : Nat} {g Cl : Addr} {gd : FuncData} {qs : List Str} {sp : Sp} {E : L2.St → XK} {x m : Str} {pp pos apos : Pos} {e o : Expr} {es : List Expr} {ta : TE} {t : TA} {pin : Addr × Obj}
/-- such a call -/
theorem pe_callP (F : FnP X.prog X.w X.K X.mg X.base C n g gd qs sp pin) (room : RoomH n X.A) (hot : Hot1 X.A pin) (mem : pin ∈ X.pn) (hg : Gl X x) (hm : X.mg x = some (.ref g)) (hk : PySem.W.keepIn X.K (.ref g) = true) (hb : Binds X.K gd qs []) (hx : ∀ σ, PassesAt C X σ (E σ))
    (ha : PA X (e :: es) t) (hdb : (x == ("__debug__" : Str)) = false := by decide) (he : starEach (e :: es) X.env = (false, eval e X.env) :: starEach es X.env := by rfl) (hpl : (backTo pos (starEach es X.env)).any (·.1) = false := by rfl) :
    PE X (.Call (.Name x pp) (e :: es) [] pos) (tCallS sp E t) := by
  refine ⟨fun pins s σ H Q I h => wpAny_Call_Name_kw (ld_glob I hg hm ?_ hdb)⟩
  refine PySem.W.callWith_K (h₀ := X.base) I.ok.mod.kin hk (thn (ha.run pos pins s σ H _ I h) ?_) he hpl
  rintro us s1 ⟨vs, H1, I1, rv, q⟩
  refine ⟨I1.kIn, ?_⟩
  have ul : us.length = qs.length := by rw [← rv.length]; exact F.len _ _ _ _ q
  have bnd := hb s1 us I1.kIn (by rw [List.append_nil]; exact ul)
  rw [List.append_nil] at bnd
  have pk := I1.pin pin (List.mem_append_left _ mem)
  have pok : PinOk X.stack H1 s1 pin := ⟨pk.1, pk.2.1, fun z => (List.mem_cons.mp (I1.stkSub pin.1 z)).elim pk.2.2.1 pk.2.2.2.1, pk.2.2.2.2⟩
  refine wpAny_call (codeAny_mono (F.run X.A X.stack s1 H1 ⟨us, []⟩ us vs Q (E σ) room hot pok I1.env0 bnd rv q) fun r s2 z => ?_)
  cases r with
  | error u => exact hx σ pins H1 s1 u s2 I1 z
  | ok fl =>
    cases fl with
    | ret u => exact I1.after z
    | next => exact z.elim
    | brk => exact z.elim
    | cont => exact z.elim
/-- o.m(..) where the wish about exceptions goes by the slots -/
theorem pe_mAt {k : Nat} {f : Addr} {fd : FuncData} {ps : List Str} {pl : Sem Bool} (he : PE X o ta) (c : Cls X.K Cl) (hm : Meth X.K Cl m f) (F : FnOk X.prog X.w X.K X.mg X.base C k f fd ps sp) (hr : Room k X.A) (hb : Binds X.K fd ps []) (hx : ∀ σ, PassesAt C X σ (E σ)) (ha : PA X (e :: es) t)
    (hst : starEach (e :: es) X.env = (false, eval e X.env) :: starEach es X.env := by rfl) (hpl : (backTo pos (starEach es X.env)).any (·.1) = false := by rfl)
    (htr : eval (.Call (.Attribute o m apos) (e :: es) [] pos) X.env = (do let ov ← eval o X.env; standAt apos.atName; let (f, first) ← holding [ov] (getMethod ov m pl); callWith pos f first (backTo pos (starEach (e :: es) X.env)) (backToKw pos (keywordEach [] X.env))) := by rfl) :
    PE X (.Call (.Attribute o m apos) (e :: es) [] pos) (tMethH Cl m sp E ta t) := by
  refine ⟨fun pins s σ H Q I h => PySem.W.methodCall_KW (pl := pl) (thn (he.run pins s σ H _ I h) ?_) htr⟩
  rintro u s1 ⟨y, H1, I1, ry, a, dx, fs, ey, ea, lk, q⟩
  subst ey
  obtain rfl : u = Value.ref a := ry
  refine getmeth_ok I1 ea c hm lk (PySem.W.callWith_K (first := [.ref a]) (h₀ := X.base) I.ok.mod.kin hm.kp (thn (ha.run pos pins s1 σ H1 _ I1 q) ?_) hst hpl)
  rintro us s2 ⟨vs, H2, I2, rv, z⟩
  exact ⟨I2.kIn, run_fnS (us := .ref a :: us) (vs := .ref a :: vs) F hr hb (hx σ) I2 (.cons rfl rv) z⟩
theorem rd_methH {σ : L2.St} {H : Hp} {Q : VK} (q : ta σ H fun y H1 => ∃ a dx fs, y = .ref a ∧ H1 a = some (.ins Cl dx fs) ∧ fs.lookup m = none ∧ t σ H1 fun vs H2 => sp (y :: vs) H2 Q (E σ)) : tMethH Cl m sp E ta t σ H Q := q
theorem rd_callS {σ : L2.St} {H : Hp} {Q : VK} (q : t σ H fun vs H1 => sp vs H1 Q (E σ)) : tCallS sp E t σ H Q := q
/-- isinstance of the pinned exception -/
theorem isP {a D : Addr} {oe : Obj} (K : PySem.W.Frag) (hK : X.K = K) (hc : ExcC K D) (hz : Zc (.ref D) none oe) (hf : ∃ vs, oe.data = .fields vs) (hm : (a, oe) ∈ X.pn) : CallR X (.builtin "isinstance") (rIsE K D a) := by
  subst hK
  intro pins s σ H xs us Q I rv h
  obtain ⟨c, cv, b, rfl, hcv, ek, q⟩ := h
  cases rv with
  | cons rx rr =>
    cases rr with
    | cons rt rr =>
      cases rr
      cases rx
      have ec := hcv _ rt
      subst ec
      have hget := (I.pin (a, oe) (List.mem_append_left _ hm)).1
      obtain ⟨vs, hv⟩ := hf
      have J : PySem.W.InstAt s.heap a oe D none := by
        obtain ⟨oc, od, oda, osl⟩ := oe
        obtain ⟨h1, h2⟩ := hz
        dsimp only at h1 h2 hv
        subst h1 h2 hv
        exact ⟨hget, rfl, rfl, trivial⟩
      refine PySem.W.kia_one (PySem.W.handS_kitx_exc hc.hg hc.hk hc.hs hc.hd hc.ha hc.hn hc.ht hc.hm) I.kIn J ek (fun z => nomatch z) fun tk => ?_
      exact ⟨.bl b, H, I.kept (t' := tk) fun _ _ z => z, rfl, q⟩
theorem roomM {j n : Nat} {B : Around} {ho : Option Value} (z : Room n B) (hj : j ≤ n) : RoomH j (B.mark ho) := ⟨(z.mono hj).dp, (z.mono hj).un⟩
theorem takesN0 : L2N.Takes X (fun _ _ _ _ => False) := fun _ _ z => by
  obtain ⟨_, _, _, _, _, _, _, _, _, _, _, _, _, _, _, _, w⟩ := z
  exact w.elim
end
end Pk
namespace Pk
open PySem PySem.Spec PyProof.Rows L2
/-! ### a desk with stores and no patches -/
/-- the signs of names -/
def SG : Str := Str.ofString "abcdefghijklmnopqrstuvwxyz0123456789"
theorem SG_len : SG.length = 36 := by decide +kernel
theorem SG_low : SG.cps.toList.all (fun c => decide (c < 128)) = true := by decide +kernel
theorem SG_size : SG.cps.toList.length = 36 := by decide +kernel
theorem SG_at {i : Int} (h0 : 0 ≤ i) (h : i < 36) : ∃ c, atI SG.cps.toList i = some c ∧ c ∈ SG.cps.toList := by
  have hn : i.toNat < SG.cps.toList.length := by rw [SG_size]; omega
  exact ⟨SG.cps.toList[i.toNat], at_int h0 (List.getElem?_eq_getElem hn), List.getElem_mem hn⟩
/-- a good name -/
structure Good (s : Str) : Prop where
  lo : 1 ≤ s.length
  hi : s.length ≤ 12
  sg : ∀ c ∈ s.cps.toList, c ∈ SG.cps.toList
theorem Good.tok {s : Str} (g : Good s) : TOk s := tok_of fun c hc => by
  have z := List.all_eq_true.mp SG_low c (g.sg c hc)
  have := of_decide_eq_true z
  omega
structure DeskE (K : PySem.W.Frag) (H : Hp) (a m h : Addr) (kvs : List (Key × V)) (ns : List Str) : Prop where
  ins : ∃ dx, H a = some (.ins (He.ga K "Desk") dx [("made", .ref m), ("having", .ref h)])
  made : H m = some (.dK [])
  hav : H h = some (.dK kvs)
  keys : kvs.map (·.1) = ns.map Sum.inr
  vals : ∀ p ∈ kvs, ∃ b, p.2 = .ref b ∧ H b = some (.dK [])
  len : ns.length ≤ 1000
  dif : m ≠ h
section
variable {K : PySem.W.Frag} {H H' : Hp} {a m h q : Addr} {kvs : List (Key × V)} {ns : List Str} {xs : List V} {s : Str}
theorem DeskE.ex (d : DeskE K H a m h kvs ns) (e : Ex H H') : DeskE K H' a m h kvs ns := by
  obtain ⟨dx, hi⟩ := d.ins
  exact ⟨⟨dx, e _ _ hi⟩, e _ _ d.made, e _ _ d.hav, d.keys, fun p hp => by
    obtain ⟨b, e1, e2⟩ := d.vals p hp
    exact ⟨b, e1, e _ _ e2⟩, d.len, d.dif⟩
/-- where a list changes -/
theorem DeskE.mutL (d : DeskE K H a m h kvs ns) (hq : H q = some (.lst xs)) (e : ∀ b x, b ≠ q → H b = some x → H' b = some x) : DeskE K H' a m h kvs ns := by
  obtain ⟨dx, hi⟩ := d.ins
  have ne : ∀ {b : Addr} {o : HO}, H b = some o → (∀ ys, o ≠ .lst ys) → b ≠ q := by
    intro b o hb ho z
    rw [z, hq] at hb
    exact ho xs (Option.some.inj hb).symm
  exact ⟨⟨dx, e _ _ (ne hi (fun _ z => nomatch z)) hi⟩, e _ _ (ne d.made (fun _ z => nomatch z)) d.made, e _ _ (ne d.hav (fun _ z => nomatch z)) d.hav, d.keys, fun p hp => by
    obtain ⟨b, e1, e2⟩ := d.vals p hp
    exact ⟨b, e1, e _ _ (ne e2 (fun _ z => nomatch z)) e2⟩, d.len, d.dif⟩
theorem DeskE.klen (d : DeskE K H a m h kvs ns) : kvs.length = ns.length := by
  have z := congrArg List.length d.keys
  rw [List.length_map, List.length_map] at z
  exact z
theorem DeskE.names (d : DeskE K H a m h kvs ns) : kvs.map (fun kv => kV kv.1) = ns.map V.str := by
  have z := congrArg (List.map kV) d.keys
  rw [List.map_map, List.map_map] at z
  exact z
theorem DeskE.has (d : DeskE K H a m h kvs ns) (hs : s ∈ ns) : ∃ b, valV kvs (Sum.inr s) = some (.ref b) ∧ H b = some (.dK []) := by
  cases e : valV kvs (Sum.inr s : Key) with
  | none =>
    refine absurd ?_ (valV_not e)
    rw [d.keys]
    exact List.mem_map.mpr ⟨s, hs, rfl⟩
  | some v =>
    unfold valV at e
    cases f : kvs.find? fun kv => decide (kv.1 = (Sum.inr s : Key)) with
    | none =>
      rw [f] at e
      cases e
    | some p =>
      rw [f] at e
      cases e
      obtain ⟨b, e1, e2⟩ := d.vals p (List.mem_of_find?_eq_some f)
      exact ⟨b, congrArg some e1, e2⟩
theorem DeskE.hasno (d : DeskE K H a m h kvs ns) (hs : s ∉ ns) : valV kvs (Sum.inr s) = none := by
  cases e : valV kvs (Sum.inr s : Key) with
  | none => rfl
  | some v =>
    have z := valV_in e
    rw [d.keys] at z
    obtain ⟨t, ht, et⟩ := List.mem_map.mp z
    cases et
    exact absurd ht hs
/-- a new store -/
theorem DeskE.begin {H1 : Hp} {b : Addr} (d : DeskE K H a m h kvs ns) (hs : s ∉ ns) (hl : ns.length < 1000) (e : Ex H H1) (hb : H1 b = some (.dK [])) (e2 : ∀ c x, c ≠ h → H1 c = some x → H' c = some x) (nb : b ≠ h) (hv : H' h = some (.dK (putK kvs (Sum.inr s) (.ref b)))) :
    DeskE K H' a m h (putK kvs (Sum.inr s) (.ref b)) (ns ++ [s]) := by
  have d1 := d.ex e
  obtain ⟨dx, hi⟩ := d1.ins
  have ne : ∀ {c : Addr} {o : HO}, H1 c = some o → o ≠ .dK kvs → c ≠ h := by
    intro c o hc ho z
    rw [z, d1.hav] at hc
    exact ho (Option.some.inj hc).symm
  refine ⟨⟨dx, e2 _ _ (ne hi (fun z => nomatch z)) hi⟩, e2 _ _ d1.dif d1.made, hv, ?_, ?_, by rw [List.length_append]; show ns.length + 1 ≤ 1000; omega, d1.dif⟩
  · rw [putK_new _ (d.hasno hs), List.map_append, List.map_append, d.keys]
    rfl
  · rw [putK_new _ (d.hasno hs)]
    intro p hp
    rcases List.mem_append.mp hp with hp | hp
    · obtain ⟨c, e3, e4⟩ := d1.vals p hp
      by_cases hc : c = h
      · subst hc
        have z := d1.hav
        rw [e4] at z
        cases z
        exact absurd hp List.not_mem_nil
      · exact ⟨c, e3, e2 _ _ hc e4⟩
    · rw [List.mem_singleton] at hp
      subst hp
      exact ⟨b, rfl, e2 _ _ nb hb⟩
end
end Pk
namespace Pk
open PySem PySem.Spec PyProof.Rows L2
/-! ### readings: iterators, fields, methods -/
section
variable {σ : L2.St} {H : Hp} {Q : VK} {K : PySem.W.Frag} {ta te : TE} {t : TA} {R : It → Hp → Prop} {a C dx : Addr} {fs : List (Str × V)} {f : Str} {v : V} {D : Ends}
theorem rd_rev (q : t σ H fun vs H1 => ∃ (a : Addr) (xs : List V), vs = [.ref a] ∧ SqL K H1 a xs ∧ R (Itv K a xs.length) H1) : iRev K t σ H R := q
theorem rd_iStr (q : te σ H fun v H1 => ∃ x, v = .str x ∧ R (Its x) H1) : iStr te σ H R := q
theorem rd_str1 {B : Str → Prop} {z : Str} (q : B z) : ∃ x, V.str z = V.str x ∧ B x := ⟨z, rfl, q⟩
theorem rd_fld (q : ta σ H fun x H1 => ∃ a C dx fs v, x = .ref a ∧ H1 a = some (.ins C dx fs) ∧ Cls K C ∧ NoAttr K C f ∧ fs.lookup f = some v ∧ Q v H1) : tFld K ta f σ H Q := q
theorem rd_fldA {B : V → Prop} (h : H a = some (.ins C dx fs)) (hc : Cls K C) (hn : NoAttr K C f) (hl : fs.lookup f = some v) (q : B v) : ∃ a' C dx fs v, V.ref a = .ref a' ∧ H a' = some (.ins C dx fs) ∧ Cls K C ∧ NoAttr K C f ∧ fs.lookup f = some v ∧ B v := ⟨a, C, dx, fs, v, rfl, h, hc, hn, hl, q⟩
theorem rd_sfld {tv : TE} (q : tv σ H fun y H1 => ta σ H1 fun x H2 => ∃ a C dx fs, x = .ref a ∧ H2 a = some (.ins C dx fs) ∧ Cls K C ∧ NoAttr K C f ∧ fs.length < 1000 ∧ D.nx σ (upd H2 a (.ins C dx (putF f y fs)))) : sFld K ta tv f D σ H := q
theorem rd_sfldA {B : Hp → Prop} {y : V} (h : H a = some (.ins C dx fs)) (hc : Cls K C) (hn : NoAttr K C f) (hl : fs.length < 1000) (q : B (upd H a (.ins C dx (putF f y fs)))) :
    ∃ a' C dx fs, V.ref a = .ref a' ∧ H a' = some (.ins C dx fs) ∧ Cls K C ∧ NoAttr K C f ∧ fs.length < 1000 ∧ B (upd H a' (.ins C dx (putF f y fs))) := ⟨a, C, dx, fs, rfl, h, hc, hn, hl, q⟩
theorem rd_meth {m : Str} {sp : Sp} {dvs : List V} {E : XK} (q : ta σ H fun x H1 => ∃ a dx fs, x = .ref a ∧ H1 a = some (.ins C dx fs) ∧ fs.lookup m = none ∧ t σ H1 fun vs H2 => sp (x :: (vs ++ dvs)) H2 Q E) : tMeth C m sp dvs E ta t σ H Q := q
theorem rd_ins {m : Str} {B : Prop} (h : H a = some (.ins C dx fs)) (hl : fs.lookup m = none) (q : B) : ∃ a' dx fs, V.ref a = .ref a' ∧ H a' = some (.ins C dx fs) ∧ fs.lookup m = none ∧ B := ⟨a, dx, fs, rfl, h, hl, q⟩
theorem rd_make {sp : Sp} {dvs : List V} {E : XK} (q : t σ H fun vs H1 => ∀ x dx, H1 x = none → H1 dx = none → dx ≠ x → sp (.ref x :: (vs ++ dvs)) (upd (upd H1 dx (.own x)) x (.ins C dx [])) (fun v H2 => v = .non ∧ Q (.ref x) H2) E) : tMake C sp dvs E t σ H Q := q
theorem rd_addS {i j : Str} (h : i.length + j.length ≤ sizeLine) (q : Q (.str (i ++ j)) H) : ∃ a b, V.str i = .str a ∧ V.str j = .str b ∧ a.length + b.length ≤ sizeLine ∧ Q (.str (a ++ b)) H := ⟨i, j, rfl, rfl, h, q⟩
theorem rd_slS {z : Str} {lo hi : Option Int} (hz : z.length ≤ sizeLine) (q : Q (.str (cutS z lo hi)) H) : rSlS (.str z) lo hi H Q := ⟨z, rfl, hz, q⟩
theorem rd_inS {c : Nat} {z : Str} {B : Bool → Prop} (q : B (decide (c ∈ z.cps.toList))) : ∃ (c' : Nat) (z' : Str), V.str ⟨#[c]⟩ = .str ⟨#[c']⟩ ∧ V.str z = .str z' ∧ B (decide (c' ∈ z'.cps.toList)) := ⟨c, z, rfl, rfl, q⟩
end
/-! ### texts -/
theorem str_app (s t : Str) : (s ++ t).cps.toList = s.cps.toList ++ t.cps.toList := by
  show (s.cps ++ t.cps).toList = _
  rw [Array.toList_append]
theorem str_len (s : Str) : s.cps.toList.length = s.length := Array.length_toList
theorem str_app_len (s t : Str) : (s ++ t).length = s.length + t.length := by
  rw [← str_len, str_app, List.length_append, str_len, str_len]
/-- name in names -/
theorem inV_names {s : Str} : ∀ ns : List Str, inV (.str s) (ns.map V.str) = decide (s ∈ ns)
  | [] => rfl
  | x :: ns => by
    have ih := inV_names (s := s) ns
    unfold inV at ih ⊢
    rw [List.map_cons, List.any_cons, ih]
    by_cases c : x = s
    · subst c
      have e : eqV (V.str x) (V.str x) = true := by show (x == x) = true; exact beq_self_eq_true x
      rw [e, Bool.true_or, decide_eq_true List.mem_cons_self]
    · have e : eqV (V.str x) (V.str s) = false := by show (x == s) = false; exact beq_eq_false_iff_ne.mpr c
      rw [e, Bool.false_or]
      by_cases d : s ∈ ns
      · rw [decide_eq_true d, decide_eq_true (List.mem_cons_of_mem _ d)]
      · rw [decide_eq_false d, decide_eq_false (fun z => by
          rcases List.mem_cons.mp z with z | z
          · exact c z.symm
          · exact d z)]
theorem flat_names (ns : List Str) : (ns.map V.str).all flatV = true := by
  rw [List.all_eq_true]
  intro v hv
  obtain ⟨s, _, rfl⟩ := List.mem_map.mp hv
  rfl
/-- lists of truth values -/
def dueL (n : Int) : List Bool := (List.range 9).map fun (j : Nat) => decide ((j : Int) = n) || decide ((j : Int) = 8)
section
variable {K : PySem.W.Frag} {H : Hp}
theorem dp_bls : ∀ xs : List Bool, DpAll K H (xs.map V.bl) (xs.map PyData.bool)
  | [] => .nil
  | x :: xs => .cons (.bl x) (dp_bls xs)
end
theorem shaped_strs {xs : List Str} (hx : ∀ t ∈ xs, TOk t) : SeqAt.shaped (.list (xs.map PyData.str)) = true := by
  have a := depth_strs xs
  refine shaped_of ?_ ?_
  · simp only [PyData.canLay0]
    exact lay_strs xs hx
  · simp only [PyData.depth]
    omega
theorem lay_bls : ∀ xs : List Bool, PyData.canLayAll0 (xs.map PyData.bool) = true
  | [] => by simp [PyData.canLayAll0]
  | x :: xs => by simp [PyData.canLayAll0, PyData.canLay0, lay_bls xs]
theorem depth_bls : ∀ xs : List Bool, PyData.depthAll (xs.map PyData.bool) ≤ 1
  | [] => by simp [PyData.depthAll]
  | x :: xs => by
    have h1 := depth_bls xs
    simp only [List.map_cons, PyData.depthAll, PyData.depth]
    omega
theorem shaped_bls (xs : List Bool) : SeqAt.shaped (.list (xs.map PyData.bool)) = true := by
  have a := depth_bls xs
  refine shaped_of ?_ ?_
  · simp only [PyData.canLay0]
    exact lay_bls xs
  · simp only [PyData.depth]
    omega
theorem passA0 {X : Cx} {σ : L2.St} {E : XK} : PassesAt CX0 X σ E := fun _ _ _ _ _ _ h => h.elim
theorem Ex.seqM {K : PySem.W.Frag} {H H1 : Hp} {a q : Addr} {xs : List V} {kvs : List (Key × V)} (hq : H q = some (.dK kvs)) (e : ∀ b x, b ≠ q → H b = some x → H1 b = some x) (h : H a = some (.lst xs)) : H1 a = some (.lst xs) :=
  e _ _ (by rintro rfl; rw [hq] at h; cases h) h
end Pk
namespace Pk
open PySem PySem.Spec PyProof.Rows L2
/-! ### built-in calls that were lacking -/
section
variable {X : Cx} {pins : List (Addr × Obj)} {σ : L2.St} {H : Hp} {s : Shared} {a : Addr}
theorem same_refl (d : Addr) (h : Heap) (hd : ∃ o, h.get? d = some o) : Heap.SameBut d h h := ⟨rfl, fun _ _ => rfl⟩
/-- an empty dict may be read as one of either kind -/
theorem dT_dK (I : Inv X pins σ H s) (h : H a = some (.dT [])) : Inv X pins σ (upd H a (.dK [])) s := by
  obtain ⟨z, hd, xs, rel, o, es, ep, g1, g2, g3, g4, _, _⟩ := dt_of I.hok h
  cases rel
  have e0 : es.toList = [] := g4
  have he : es = #[] := by
    cases es
    cases e0
    rfl
  subst he
  refine d_write (t' := s.toks) I (by rw [h]; exact True.intro) (same_refl a s.heap ⟨_, g1⟩) ⟨_, g1⟩ ⟨Nat.zero_le _, hd, [], .nil, o, #[], ep, g1, g2, g3, ?_, ?_, List.nodup_nil⟩
  · intro e he
    simp at he
  · exact .nil
theorem dK_dT (I : Inv X pins σ H s) (h : H a = some (.dK [])) : Inv X pins σ (upd H a (.dT [])) s := by
  obtain ⟨z, hd, vs, rel, o, es, ep, g1, g2, g3, g4, g5, _⟩ := dk_of I.hok h
  cases rel
  have e0 : es.toList = [] := by
    cases e : es.toList with
    | nil => rfl
    | cons x r =>
      rw [e] at g5
      cases g5
  exact d_write (t' := s.toks) I (by rw [h]; exact True.intro) (same_refl a s.heap ⟨_, g1⟩) ⟨_, g1⟩ ⟨Nat.zero_le _, hd, [], .nil, o, es, ep, g1, g2, g3, e0, List.nodup_nil⟩
/-- dict(d), d empty, its keys to be tuples -/
theorem call_dictT0 : CallR X (.type "dict") (fun xs H Q => ∃ a, xs = [V.ref a] ∧ H a = some (.dT []) ∧ ∀ p, H p = none → Q (.ref p) (upd H p (.dT []))) := by
  intro pins s σ H xs us Q I r h
  obtain ⟨a, rfl, hA, q⟩ := h
  obtain ⟨u, rfl, rx⟩ := r.one
  cases rx
  have I1 := dT_dK I hA
  refine d_copyOf (kvs := []) I1 (.inl upd_same) fun p s' hp I2 => ?_
  have ne : p ≠ a := by
    rintro rfl
    rw [upd_same] at hp
    cases hp
  rw [upd_ne ne] at hp
  have I3 := dK_dT I2 upd_same
  rw [upd_upd] at I3
  have I4 := dK_dT (a := a) I3 (by rw [upd_ne (Ne.symm ne), upd_same])
  rw [upd_swap ne, upd_upd, upd_back hA] at I4
  exact ⟨.ref p, _, I4, rfl, q p hp⟩
/-- a.update(b), two dicts of plain keys -/
def rUpd : V → List V → Hp → VK → Prop := fun x vs H Q => ∃ (a b : Addr) (kvs more : List (Key × V)), x = .ref a ∧ vs = [.ref b] ∧ a ≠ b ∧ H a = some (.dK kvs) ∧ H b = some (.dK more) ∧ kvs.length + more.length ≤ sizeLine ∧ Q .non (upd H a (.dK (mergeK kvs more)))
theorem mt_upd : MtM X "dict.update" rUpd := by
  intro pins s σ H x vs v us Q I rx rv h
  obtain ⟨a, b, kvs, more, rfl, rfl, ne, hA, hB, hz, q⟩ := h
  cases rx
  obtain ⟨u, rfl, ru⟩ := rv.one
  cases ru
  obtain ⟨z, hd, va, rel, dd⟩ := dk_of I.hok hA
  obtain ⟨z2, hd2, vb, rel2, dd2⟩ := dk_of I.hok hB
  refine call_meetsIn PySem.F.slot_dict_update dd.typeIs PySem.F.entry_dict_update (PySem.F.args_dict_update_2 _ _) (meets_dict_update (mixKind X.prog X.w) a b ne hd2)
    ⟨va, vb, dd, dd2, by rw [← rel.length, ← rel2.length]; exact hz, fun h' d1 d2 sb => ?_⟩
  obtain ⟨o, es, ep, g1, g2, g3, g4, g5, g6⟩ := d1
  have lm : (mergeK kvs more).length ≤ sizeLine := Nat.le_trans (length_mergeK more kvs) hz
  exact ⟨.non, _, d_write (t' := s.toks) I (by rw [hA]; exact True.intro) sb ⟨o, g1⟩ (dk_new lm hd (KV.merge rel2 rel) ⟨o, es, ep, g1, g2, g3, g4, g5, g6⟩), rfl, q⟩
/-- l.remove(x), x the very first item -/
theorem eq_same {prog : Program} {w : World} {A : Around} {E : Value → Shared → Prop} {s : Shared} {b : Addr} {Q : Bool → Shared → Prop} (h : Q true s) : wpAny (model prog w) A (eqBool (.ref b) (.ref b)) Q E s := by
  unfold eqBool
  rw [if_pos (beq_self_eq_true _)]
  exact wpAny_holding (wpAny_bind (wpAny_rule (wpAny_pure h)))
theorem rem_loop0 (l b : Addr) (items : Array Value) (n : Nat) (h0 : items[0]? = some (.ref b)) (hs1 : items.size ≤ sizeLine) : Meets (Builtin.«list.remove.loop» ⟨[.ref l, .ref b, rawInt ((0 : Nat) : Int)], []⟩)
    (fun _ R s => s.heap.get? l = some { cls := .type "list", dict := none, data := .seq items n, slots := #[] } ∧ R (.ok (.ret .none)) { s with heap := s.heap.update l (Obj.mapSeq fun xs => xs.eraseIdxIfInBounds 0) }) := by
  intro prog w A R s h
  obtain ⟨hp, gs, dr, tk, os⟩ := s
  obtain ⟨hl, h⟩ := h
  wp_walk using wpAny_loadPart' hl
  have e1 : items[((0 : Nat) : Int).toNat]? = some (.ref b) := h0
  rw [e1]
  refine wpAny_bind (eq_same ?_)
  rw [if_pos rfl]
  have hz' : (items.eraseIdxIfInBounds 0).size ≤ sizeLine + 1 := Nat.le_trans (MeetsSeq.size_erased items _) (Nat.le_trans hs1 (Nat.le_succ _))
  wp_walk using (wpAny_updateSeq hl rfl (hz := hs1) (_hz' := hz')), wpAny_loadPart' hl
  simpa using h
theorem rem_0 (l b : Addr) (items : Array Value) (n : Nat) (h0 : items[0]? = some (.ref b)) (hs1 : items.size ≤ sizeLine) : Meets (Builtin.«list.remove» ⟨[.ref l, .ref b], []⟩)
    (fun _ R s => s.heap.get? l = some { cls := .type "list", dict := none, data := .seq items n, slots := #[] } ∧ R (.ok (.ret .none)) { s with heap := s.heap.update l (Obj.mapSeq fun xs => xs.eraseIdxIfInBounds 0) }) := by
  intro prog w A R s h
  obtain ⟨hp, gs, dr, tk, os⟩ := s
  obtain ⟨hl, h⟩ := h
  wp_walk using wpAny_loadPart' hl
  refine ⟨plainId_quiet MeetsSeq.plain_remove_loop _, codeAny_builtin MeetsSeq.entry_remove_loop ?_⟩
  rw [Around.under_plainId MeetsSeq.plain_remove_loop _]
  exact rem_loop0 l b items n h0 hs1 prog w A R _ ⟨hl, h⟩
def rRem0 : V → List V → Hp → VK → Prop := fun x vs H Q => ∃ (l b : Addr) (ys : List V), x = .ref l ∧ vs = [.ref b] ∧ H l = some (.lst (.ref b :: ys)) ∧ Q .non (upd H l (.lst ys))
theorem mt_rem0 : MtM X "list.remove" rRem0 := by
  intro pins s σ H x vs v us Q I rx rv h
  obtain ⟨l, b, ys, rfl, rfl, hH, q⟩ := h
  cases rx
  obtain ⟨u, rfl, ru⟩ := rv.one
  cases ru
  obtain ⟨z, its, n, r, hl, e⟩ := I.lstM hH
  cases r with
  | cons rb r =>
    cases rb
    rename_i us
    have hz : (Value.ref b :: us).toArray.size ≤ sizeLine := by
      rw [List.size_toArray, ← hl]
      exact z
    refine call_meets PySem.F.slot_list_remove ⟨_, e, rfl⟩ PySem.F.entry_list_remove (PySem.F.args_list_remove_2 _ _) (rem_0 l b (Value.ref b :: us).toArray n (by simp) hz) ⟨e, ?_⟩
    refine ⟨.non, _, I.lset (its' := us) (ys := ys) hH e ?_ r ?_, rfl, q⟩
    · simp
    · rw [List.length_cons] at z
      omega
end
end Pk
namespace Pk
open PySem PySem.Spec PyProof.Rows L2
/-! ### loops turn by turn -/
section
variable {g : TG} {tb : TS} {D : Ends} {J : It} {σ : L2.St} {H : Hp} {K : PySem.W.Frag} {a : Addr} {xs : List V} {x : V} {i n : Nat} {lo hi : Int}
def forW (g : TG) (tb : TS) (D : Ends) (J : It) : Nat → Nat → L2.St → Hp → Prop
  | 0, i, σ, H => J.stop i H ∧ D.nx σ H
  | n + 1, i, σ, H => J.go i H ∧ ∀ y H', J.yld i H y H' → g y σ H' fun σ2 H2 => tb { D with nx := forW g tb D J n (i + 1), ct := forW g tb D J n (i + 1), bk := D.nx } σ2 H2
theorem for_unr (n : Nat) (h : forW g tb D J n 0 σ H) : ForOf g tb D σ J H := by
  refine ⟨fun i m σ' H' => forW g tb D J m i σ' H', ⟨n, h⟩, ?_⟩
  intro i m σ' H' z
  cases m with
  | zero => exact .inl z
  | succ m => exact .inr ⟨z.1, forW g tb D J m (i + 1), fun σ2 H2 w => ⟨m, Nat.lt_succ_self m, w⟩, z.2⟩
theorem w_go (h : J.go i H ∧ ∀ y H', J.yld i H y H' → g y σ H' fun σ2 H2 => tb { D with nx := forW g tb D J n (i + 1), ct := forW g tb D J n (i + 1), bk := D.nx } σ2 H2) : forW g tb D J (n + 1) i σ H := h
theorem w_end (h : J.stop i H ∧ D.nx σ H) : forW g tb D J 0 i σ H := h
theorem turnL {B : V → Hp → Prop} (h : SqL K H a xs) (hx : xs[i]? = some x) (q : B x H) : (Itl K a).go i H ∧ ∀ y H', (Itl K a).yld i H y H' → B y H' := by
  refine ⟨⟨xs, x, h, hx⟩, ?_⟩
  rintro y H' ⟨rfl, z⟩
  have e := z xs h
  rw [hx] at e
  cases e
  exact q
theorem endL {B : Prop} (h : SqL K H a xs) (hl : xs.length ≤ i) (q : B) : (Itl K a).stop i H ∧ B := ⟨⟨xs, h, hl⟩, q⟩
theorem turnT {B : V → Hp → Prop} (h : SqT K H a xs) (hx : xs[i]? = some x) (q : B x H) : (Itt K a).go i H ∧ ∀ y H', (Itt K a).yld i H y H' → B y H' := by
  refine ⟨⟨xs, x, h, hx⟩, ?_⟩
  rintro y H' ⟨rfl, z⟩
  have e := z xs h
  rw [hx] at e
  cases e
  exact q
theorem endT {B : Prop} (h : SqT K H a xs) (hl : xs.length ≤ i) (q : B) : (Itt K a).stop i H ∧ B := ⟨⟨xs, h, hl⟩, q⟩
theorem turnR {B : V → Hp → Prop} {m : Nat} (hi : i < m) (q : B (.int (lo + i)) H) : (Itr lo m).go i H ∧ ∀ y H', (Itr lo m).yld i H y H' → B y H' := by
  refine ⟨hi, ?_⟩
  rintro y H' ⟨rfl, rfl⟩
  exact q
theorem turnC {B : V → Hp → Prop} {c : Int} {m : Nat} (hi : i < m) (q : B (.int (lo + (i : Nat) * c)) H) : (Itc lo c m).go i H ∧ ∀ y H', (Itc lo c m).yld i H y H' → B y H' := by
  refine ⟨hi, ?_⟩
  rintro y H' ⟨rfl, rfl⟩
  exact q
theorem endC {B : Prop} {c : Int} {m : Nat} (hi : m ≤ i) (q : B) : (Itc lo c m).stop i H ∧ B := ⟨hi, q⟩
theorem endR {B : Prop} {m : Nat} (hi : m ≤ i) (q : B) : (Itr lo m).stop i H ∧ B := ⟨hi, q⟩
/-- a loop by an invariant, over any walk -/
theorem for_inv (n : Nat) (Pv : Nat → L2.St → Hp → Prop) (h0 : Pv 0 σ H) (hs : ∀ i σ H, i < n → Pv i σ H → J.go i H ∧ ∀ y H', J.yld i H y H' → g y σ H' fun σ2 H2 => tb { D with nx := Pv (i + 1), ct := Pv (i + 1), bk := D.nx } σ2 H2)
    (hd : ∀ σ H, Pv n σ H → J.stop n H ∧ D.nx σ H) : ForOf g tb D σ J H := by
  refine ⟨fun i m σ' H' => i + m = n ∧ Pv i σ' H', ⟨n, Nat.zero_add n, h0⟩, ?_⟩
  rintro i m σ' H' ⟨e, z⟩
  cases m with
  | zero =>
    have ei : i = n := e
    subst ei
    exact .inl (hd _ _ z)
  | succ m =>
    have z2 := hs i σ' H' (by omega) z
    exact .inr ⟨z2.1, Pv (i + 1), fun σ2 H2 w => ⟨m, Nat.lt_succ_self m, by omega, w⟩, z2.2⟩
theorem turnV {B : V → Hp → Prop} {m : Nat} (hi : i < m) (h : SqL K H a xs) (hx : xs[m - 1 - i]? = some x) (q : B x H) : (Itv K a m).go i H ∧ ∀ y H', (Itv K a m).yld i H y H' → B y H' := by
  refine ⟨⟨hi, xs, x, h, hx⟩, ?_⟩
  rintro y H' ⟨rfl, z⟩
  have e := z xs h
  rw [hx] at e
  cases e
  exact q
theorem endV {B : Prop} {m : Nat} (hi : m ≤ i) (q : B) : (Itv K a m).stop i H ∧ B := ⟨hi, q⟩
theorem rd_enum {t : TA} {R : It → Hp → Prop} (q : t σ H fun vs H1 => ∃ (a : Addr) (xs : List V), vs = [.ref a] ∧ SqL K H1 a xs ∧ R (Ite K a) H1) : iEnum K t σ H R := q
theorem rd_iTup {te : TE} {R : It → Hp → Prop} (q : te σ H fun x H1 => ∃ a, x = .ref a ∧ (∃ xs, SqT K H1 a xs) ∧ R (Itt K a) H1) : iTup K te σ H R := q
/-- enumerate: a new pair -/
theorem turnE {B : V → Hp → Prop} (h : SqL K H a xs) (hx : xs[i]? = some x) (q : ∀ t, H t = none → B (.ref t) (upd H t (.tup [.int (i : Nat), x]))) : (Ite K a).go i H ∧ ∀ y H', (Ite K a).yld i H y H' → B y H' := by
  refine ⟨⟨xs, x, h, hx⟩, ?_⟩
  rintro y H' ⟨t, x', rfl, ht, rfl, z⟩
  have e := z xs h
  rw [hx] at e
  cases e
  exact q t ht
theorem endE {B : Prop} (h : SqL K H a xs) (hl : xs.length ≤ i) (q : B) : (Ite K a).stop i H ∧ B := ⟨⟨xs, h, hl⟩, q⟩
end
section
variable {g : TG} {tt : TT} {te : TE} {vs : List Nat} {Q : VK} {p : Addr} {J : It} {σ : L2.St} {H H1 : Hp} {i n : Nat}
def lcW (g : TG) (tt : TT) (te : TE) (vs : List Nat) (σ : L2.St) (Q : VK) (J : It) (p : Addr) : Nat → Nat → Hp → Prop
  | 0, i, H => J.stop i H ∧ Q (.ref p) H
  | n + 1, i, H => J.go i H ∧ ∀ y H', J.yld i H y H' → g y (wipe σ vs) H' fun σ2 H2 => wipe σ2 vs = wipe σ vs ∧ tt σ2 H2 fun b H3 =>
    if b = true then te σ2 H3 fun z H4 => ∃ acc, H4 p = some (.lst acc) ∧ acc.length < sizeLine ∧ lcW g tt te vs σ Q J p n (i + 1) (upd H4 p (.lst (acc ++ [z]))) else lcW g tt te vs σ Q J p n (i + 1) H3
theorem lc_unr (n : Nat) (h : ∀ p, H1 p = none → lcW g tt te vs σ Q J p n 0 (upd H1 p (.lst []))) : LcOf g tt te vs σ Q J H1 := by
  intro p hp
  refine ⟨fun i m H' => lcW g tt te vs σ Q J p m i H', ⟨n, h p hp⟩, ?_⟩
  intro i m H' z
  cases m with
  | zero => exact .inl z
  | succ m => exact .inr ⟨z.1, lcW g tt te vs σ Q J p m (i + 1), fun H2 w => ⟨m, Nat.lt_succ_self m, w⟩, z.2⟩
theorem lw_go (h : J.go i H ∧ ∀ y H', J.yld i H y H' → g y (wipe σ vs) H' fun σ2 H2 => wipe σ2 vs = wipe σ vs ∧ tt σ2 H2 fun b H3 =>
    if b = true then te σ2 H3 fun z H4 => ∃ acc, H4 p = some (.lst acc) ∧ acc.length < sizeLine ∧ lcW g tt te vs σ Q J p n (i + 1) (upd H4 p (.lst (acc ++ [z]))) else lcW g tt te vs σ Q J p n (i + 1) H3) : lcW g tt te vs σ Q J p (n + 1) i H := h
theorem lw_end (h : J.stop i H ∧ Q (.ref p) H) : lcW g tt te vs σ Q J p 0 i H := h
end
section
variable {σ : L2.St} {H : Hp} {Q : VK} {te : TE} {vs : List Nat} {K : PySem.W.Frag} {a : Addr} {xs : List V} {tt : TT} {k : Nat}
/-- a comprehension over a list that stands: the test and the element lay nothing -/
theorem lcF {α : Type} (ys : List α) (f : α → V) (b : α → Bool) (v : α → V) (hS : SqL K H a (ys.map f)) (hn : ys.length ≤ 1000) (hw : ∀ x, wipe ((wipe σ vs).set k (some x)) vs = wipe σ vs)
    (ht : ∀ y ∈ ys, ∀ (H' : Hp) (QT : Bool → Hp → Prop), Ex H H' → QT (b y) H' → tt ((wipe σ vs).set k (some (f y))) H' QT)
    (he : ∀ y ∈ ys, b y = true → ∀ (H' : Hp) (Q' : VK), Ex H H' → Q' (v y) H' → te ((wipe σ vs).set k (some (f y))) H' Q')
    (q : ∀ p, H p = none → Q (.ref p) (upd H p (.lst ((ys.filter b).map v)))) : LcOf (gName k) tt te vs σ Q (Itl K a) H := by
  intro p hp
  refine lc_list (K := K) (a := a) (xs := ys.map f) (fun i H' => H' = upd H p (.lst (((ys.take i).filter b).map v))) rfl ?_ ?_ ?_
  · rintro i H' hi rfl
    exact (Ex.new hp).seqL hS
  · rintro i x H' hx rfl
    rw [List.getElem?_map] at hx
    cases e : ys[i]? with
    | none =>
      rw [e] at hx
      cases hx
    | some y =>
      rw [e] at hx
      cases hx
      have hm : y ∈ ys := List.mem_of_getElem? e
      have hi : i < ys.length := (List.getElem?_eq_some_iff.mp e).1
      have tk : ys.take (i + 1) = ys.take i ++ [y] := by
        rw [List.take_succ, e]
        rfl
      refine ⟨hw _, ht y hm _ _ (Ex.new hp) ?_⟩
      cases hb : b y with
      | true =>
        refine rd_T (he y hm hb _ _ (Ex.new hp) ⟨_, upd_same, ?_, ?_⟩)
        · rw [List.length_map]
          refine line_lt (Nat.lt_of_le_of_lt (List.length_filter_le _ _) ?_)
          rw [List.length_take]
          omega
        · rw [upd_upd, tk, List.filter_append, List.map_append]
          have e1 : [y].filter b = [y] := by simp [hb]
          rw [e1]
          rfl
      | false =>
        refine rd_F ?_
        rw [tk, List.filter_append]
        have e1 : [y].filter b = [] := by simp [hb]
        rw [e1, List.append_nil]
  · rintro H' rfl
    rw [List.length_map, List.take_length]
    exact q p hp
end
section
variable {σ : L2.St} {H : Hp} {Q : VK} {td te : TE} {vs : List Nat} {tt : TT} {k : Nat} {d : Addr}
/-- a comprehension over the keys of a dict that stands: the test and the element lay nothing -/
theorem lock_F {α : Type} (ys : List α) (key : α → Key) (val : α → V) (b : α → Bool) (v : α → V) (hd : H d = some (.dK (ys.map fun y => (key y, val y)))) (hn : ys.length ≤ 1000) (hw : ∀ x, wipe ((wipe σ vs).set k (some x)) vs = wipe σ vs)
    (htd : ∀ (od : Obj) (Q' : VK), Q' (.ref d) (upd H d (.frz od (.dK (ys.map fun y => (key y, val y))))) → td σ (upd H d (.frz od (.dK (ys.map fun y => (key y, val y))))) Q')
    (ht : ∀ y ∈ ys, ∀ (H' : Hp) (QT : Bool → Hp → Prop), (∀ a o, a ≠ d → H a = some o → H' a = some o) → (∃ od, H' d = some (.frz od (.dK (ys.map fun y => (key y, val y))))) → QT (b y) H' → tt ((wipe σ vs).set k (some (kV (key y)))) H' QT)
    (he : ∀ y ∈ ys, b y = true → ∀ (H' : Hp) (Q' : VK), (∀ a o, a ≠ d → H a = some o → H' a = some o) → (∃ od, H' d = some (.frz od (.dK (ys.map fun y => (key y, val y))))) → Q' (v y) H' → te ((wipe σ vs).set k (some (kV (key y)))) H' Q')
    (q : ∀ p, H p = none → Q (.ref p) (upd H p (.lst ((ys.filter b).map v)))) : tLockE (tLc (iKeys td) (gName k) tt te vs) σ H Q := by
  generalize hk : (ys.map fun y => (key y, val y)) = kvs at hd htd ht he
  refine ⟨d, _, hd, trivial, fun od => rd_lc (htd od _ ⟨d, od, rfl, .inl ⟨kvs, upd_same, ?_⟩⟩)⟩
  intro p hp
  have ne : p ≠ d := by
    rintro rfl
    rw [upd_same] at hp
    cases hp
  have hp0 : H p = none := by rw [upd_ne ne] at hp; exact hp
  have kl : kvs.length = ys.length := by rw [← hk, List.length_map]
  refine ⟨fun i m H' => i + m = ys.length ∧ H' = upd (upd H d (.frz od (.dK kvs))) p (.lst (((ys.take i).filter b).map v)), ⟨ys.length, Nat.zero_add _, rfl⟩, ?_⟩
  rintro i m H' ⟨em, rfl⟩
  have at_d : ∀ l, upd (upd H d (.frz od (.dK kvs))) p l d = some (.frz od (.dK kvs)) := fun l => by rw [upd_ne (Ne.symm ne), upd_same]
  have at_o : ∀ l a o, a ≠ d → H a = some o → upd (upd H d (.frz od (.dK kvs))) p l a = some o := fun l a o ha ho => by
    rw [upd_ne (ne_of_none ho hp0), upd_ne ha]
    exact ho
  cases m with
  | zero =>
    have ei : i = ys.length := em
    subst ei
    refine .inl ⟨⟨at_d _, by rw [kl]; exact Nat.le_refl _⟩, at_d _, ?_⟩
    rw [upd_swap ne, upd_upd, upd_back hd, List.take_length]
    exact q p hp0
  | succ m =>
    have hi : i < ys.length := by omega
    refine .inr ⟨⟨at_d _, by rw [kl]; exact hi⟩, fun H2 => H2 = upd (upd H d (.frz od (.dK kvs))) p (.lst (((ys.take (i + 1)).filter b).map v)), fun H2 w => ⟨m, Nat.lt_succ_self m, by omega, w⟩, ?_⟩
    rintro x H2 ⟨rfl, k', v', e, rfl⟩
    rw [← hk, List.getElem?_map] at e
    cases ey : ys[i]? with
    | none =>
      rw [ey] at e
      cases e
    | some y =>
      rw [ey] at e
      cases e
      have hm : y ∈ ys := List.mem_of_getElem? ey
      have tk : ys.take (i + 1) = ys.take i ++ [y] := by
        rw [List.take_succ, ey]
        rfl
      refine ⟨hw _, ht y hm _ _ (at_o _) ⟨od, at_d _⟩ ?_⟩
      cases hb : b y with
      | true =>
        refine rd_T (he y hm hb _ _ (at_o _) ⟨od, at_d _⟩ ⟨_, upd_same, ?_, ?_⟩)
        · rw [List.length_map]
          refine line_lt (Nat.lt_of_le_of_lt (List.length_filter_le _ _) ?_)
          rw [List.length_take]
          omega
        · rw [upd_upd, tk, List.filter_append, List.map_append]
          have e1 : [y].filter b = [y] := by simp [hb]
          rw [e1]
          rfl
      | false =>
        refine rd_F ?_
        rw [tk, List.filter_append]
        have e1 : [y].filter b = [] := by simp [hb]
        rw [e1, List.append_nil]
end
end Pk
namespace Pk
open PySem PySem.Spec PyProof.Rows L2
/-! ### patches of one put each, at most two a file -/
structure PR where
  nm : Str
  fl : Str
  up : Bool
  ad : Addr
  pl : Addr
  cl : Addr
def kT (s : Str) : List Key := [Sum.inr s, Sum.inl 0]
theorem kT_inj {s t : Str} (h : kT s = kT t) : s = t := by
  unfold kT at h
  injection h with h1 h2
  exact Sum.inr.inj h1
def UpV (H : Hp) (u : V) (f : Str) : Bool → Prop
  | false => u = .non
  | true => ∃ t, u = .ref t ∧ H t = some (.tup [.str f, .int 0])
/-- a tuple (name, 0) -/
def KeyAt (H : Hp) (k : Addr) (s : Str) : Prop := H k = some (.tup [.str s, .int 0])
def KeyR (H : Hp) (k : Addr) (r : PR) : Prop := KeyAt H k r.nm
def LineAt (H : Hp) (t : Addr) (r : PR) : Prop := ∃ (k : Addr) (u : V), H t = some (.tup [.ref k, .str r.fl, u, .non]) ∧ KeyAt H k r.nm ∧ UpV H u r.fl r.up
def RowT (H : Hp) (t : Addr) (r : PR) : Prop := H t = some (.tup [.str r.nm, .int 0, .str r.fl])
def AllAt (P : Hp → Addr → PR → Prop) (H : Hp) : List Addr → List PR → Prop
  | [], [] => True
  | t :: ts, r :: rs => P H t r ∧ AllAt P H ts rs
  | _, _ => False
structure PatAt (K : PySem.W.Frag) (H : Hp) (r : PR) : Prop where
  obj : ∃ dx nd kvs, H r.ad = some (.ins (He.ga K "Patch") dx [("name", .str r.nm), ("file", .str r.fl), ("puts", .ref r.pl), ("cuts", .ref r.cl), ("other", .non), ("needs", .ref nd)]) ∧ H nd = some (.dK kvs) ∧ kvs.length ≤ 100 + r.up.toNat
  puts : ∃ pt u, H r.pl = some (.lst [.ref pt]) ∧ H pt = some (.tup [.str r.fl, u, .non]) ∧ UpV H u r.fl r.up
  cuts : H r.cl = some (.lst [])
def ofF (f : Str) (L : List PR) : List PR := L.filter fun r => decide (r.fl = f)
/-- the patches of one file -/
inductive Two (f : Str) : List PR → Prop
  | no : Two f []
  | one (x : PR) (h1 : x.up = false) (h2 : x.nm = f) (h3 : x.fl = f) : Two f [x]
  | two (x y : PR) (h1 : x.up = false) (h2 : x.nm = f) (h3 : x.fl = f) (h4 : y.up = true) (h5 : y.nm ≠ f) (h6 : y.fl = f) : Two f [x, y]
/-- what is ahead of what -/
def AheadAt (H : Hp) (p : Addr) : List PR → Prop
  | [] => H p = some (.dT [])
  | [x] => ∃ m, H p = some (.dT [(kT x.nm, .ref m)]) ∧ H m = some (.dT [])
  | [x, y] => ∃ m n, H p = some (.dT [(kT x.nm, .ref m), (kT y.nm, .ref n)]) ∧ H m = some (.dT []) ∧ H n = some (.dT [(kT x.nm, .bl true)])
  | _ => False
section
variable {K : PySem.W.Frag} {H H' : Hp} {q : Addr} {r : PR} {xs : List V} {u : V} {f : Str} {b : Bool} {k t : Addr} {s : Str}
theorem UpV.ex (h : UpV H u f b) (e : Ex H H') : UpV H' u f b := by
  cases b with
  | false => exact h
  | true =>
    obtain ⟨t, h1, h2⟩ := h
    exact ⟨t, h1, e _ _ h2⟩
theorem KeyAt.ex (h : KeyAt H k s) (e : Ex H H') : KeyAt H' k s := e _ _ h
theorem KeyR.ex (h : KeyR H k r) (e : Ex H H') : KeyR H' k r := e _ _ h
theorem LineAt.ex (h : LineAt H t r) (e : Ex H H') : LineAt H' t r := by
  obtain ⟨k, u, h1, h2, h3⟩ := h
  exact ⟨k, u, e _ _ h1, h2.ex e, h3.ex e⟩
theorem RowT.ex (h : RowT H t r) (e : Ex H H') : RowT H' t r := e _ _ h
theorem AllAt.imp {P P' : Hp → Addr → PR → Prop} (h : ∀ t r, P H t r → P' H' t r) : ∀ {ts : List Addr} {rs : List PR}, AllAt P H ts rs → AllAt P' H' ts rs
  | [], [], _ => trivial
  | [], _ :: _, z => z
  | _ :: _, [], z => z
  | t :: ts, r :: rs, z => ⟨h t r z.1, AllAt.imp h z.2⟩
theorem AllAt.snoc {P : Hp → Addr → PR → Prop} {t : Addr} {r : PR} (hp : P H t r) : ∀ {ts : List Addr} {rs : List PR}, AllAt P H ts rs → AllAt P H (ts ++ [t]) (rs ++ [r])
  | [], [], _ => ⟨hp, trivial⟩
  | [], _ :: _, z => z.elim
  | _ :: _, [], z => z.elim
  | t :: ts, r :: rs, z => ⟨z.1, AllAt.snoc hp z.2⟩
theorem AllAt.len {P : Hp → Addr → PR → Prop} : ∀ {ts : List Addr} {rs : List PR}, AllAt P H ts rs → ts.length = rs.length
  | [], [], _ => rfl
  | [], _ :: _, z => z.elim
  | _ :: _, [], z => z.elim
  | t :: ts, r :: rs, z => congrArg (· + 1) (AllAt.len z.2)
/-- the keys of lines -/
theorem lines_keys : ∀ {ts : List Addr} {R : List PR}, AllAt LineAt H ts R → ∃ zs : List (Addr × Addr), zs.map Prod.fst = ts ∧ AllAt KeyR H (zs.map Prod.snd) R ∧ ∀ z ∈ zs, (∃ xs, H z.1 = some (.tup (.ref z.2 :: xs))) ∧ ∃ s, KeyAt H z.2 s
  | [], [], _ => ⟨[], rfl, trivial, fun z hz => absurd hz List.not_mem_nil⟩
  | [], _ :: _, h => h.elim
  | _ :: _, [], h => h.elim
  | t :: ts, r :: rs, h => by
    obtain ⟨zs, e1, e2, e3⟩ := lines_keys h.2
    obtain ⟨k, u, l1, l2, l3⟩ := h.1
    refine ⟨(t, k) :: zs, by rw [List.map_cons, e1], ⟨l2, e2⟩, fun z hz => ?_⟩
    rcases List.mem_cons.mp hz with hz | hz
    · subst hz
      exact ⟨⟨_, l1⟩, _, l2⟩
    · exact e3 z hz
/-- all but lists stands -/
def ML (H H' : Hp) : Prop := ∀ b o, H b = some o → (∀ ys, o ≠ .lst ys) → H' b = some o
theorem ML.refl : ML H H := fun _ _ h _ => h
theorem ML.ex {H1 : Hp} (m : ML H H1) (e : Ex H1 H') : ML H H' := fun b o h n => e _ _ (m b o h n)
theorem ML.mut {H1 : Hp} (m : ML H H1) (hq : H1 q = some (.lst xs)) (e : ∀ b x, b ≠ q → H1 b = some x → H' b = some x) : ML H H' := fun b o h n => by
  refine e _ _ ?_ (m b o h n)
  rintro rfl
  have z := m _ o h n
  rw [hq] at z
  exact n xs (Option.some.inj z).symm
theorem KeyAt.ml (h : KeyAt H k s) (m : ML H H') : KeyAt H' k s := m _ _ h (fun _ z => nomatch z)
theorem KeyR.ml (h : KeyR H k r) (m : ML H H') : KeyR H' k r := m _ _ h (fun _ z => nomatch z)
theorem AheadAt.ml {p : Addr} : ∀ {R : List PR}, AheadAt H p R → ML H H' → AheadAt H' p R
  | [], h, e => e _ _ h (fun _ z => nomatch z)
  | [x], ⟨m, h1, h2⟩, e => ⟨m, e _ _ h1 (fun _ z => nomatch z), e _ _ h2 (fun _ z => nomatch z)⟩
  | [x, y], ⟨m, n, h1, h2, h3⟩, e => ⟨m, n, e _ _ h1 (fun _ z => nomatch z), e _ _ h2 (fun _ z => nomatch z), e _ _ h3 (fun _ z => nomatch z)⟩
  | _ :: _ :: _ :: _, h, _ => h.elim
theorem AllAt.ts0 {P : Hp → Addr → PR → Prop} {ts : List Addr} (h : AllAt P H ts []) : ts = [] := List.length_eq_zero_iff.mp h.len
theorem AllAt.ts1 {P : Hp → Addr → PR → Prop} {x : PR} : ∀ {ts : List Addr}, AllAt P H ts [x] → ∃ t, ts = [t] ∧ P H t x
  | [], h => h.elim
  | [t], h => ⟨t, rfl, h.1⟩
  | _ :: _ :: _, h => h.2.elim
theorem AllAt.ts2 {P : Hp → Addr → PR → Prop} {x y : PR} : ∀ {ts : List Addr}, AllAt P H ts [x, y] → ∃ t t', ts = [t, t'] ∧ P H t x ∧ P H t' y
  | [], h => h.elim
  | [_], h => h.2.elim
  | [t, t'], h => ⟨t, t', rfl, h.1, h.2.1⟩
  | _ :: _ :: _ :: _, h => h.2.2.elim
theorem AllAt.at_ {P : Hp → Addr → PR → Prop} : ∀ {ts : List Addr} {rs : List PR}, AllAt P H ts rs → ∀ {i : Nat} {t : Addr}, ts[i]? = some t → ∃ r, rs[i]? = some r ∧ P H t r
  | [], [], _, i, t, h => by simp at h
  | [], _ :: _, z, _, _, _ => z.elim
  | _ :: _, [], z, _, _, _ => z.elim
  | t :: ts, r :: rs, z, 0, _, h => by
    cases h
    exact ⟨r, rfl, z.1⟩
  | t :: ts, r :: rs, z, i + 1, _, h => by
    rw [List.getElem?_cons_succ] at h
    rw [List.getElem?_cons_succ]
    exact AllAt.at_ z.2 h
theorem AheadAt.ex {p : Addr} : ∀ {R : List PR}, AheadAt H p R → Ex H H' → AheadAt H' p R
  | [], h, e => e _ _ h
  | [x], ⟨m, h1, h2⟩, e => ⟨m, e _ _ h1, e _ _ h2⟩
  | [x, y], ⟨m, n, h1, h2, h3⟩, e => ⟨m, n, e _ _ h1, e _ _ h2, e _ _ h3⟩
  | _ :: _ :: _ :: _, h, _ => h.elim
theorem PatAt.ex (h : PatAt K H r) (e : Ex H H') : PatAt K H' r := by
  obtain ⟨dx, nd, kvs, h1, h2, h3⟩ := h.obj
  obtain ⟨pt, u, h4, h5, h6⟩ := h.puts
  exact ⟨⟨dx, nd, kvs, e _ _ h1, e _ _ h2, h3⟩, ⟨pt, u, e _ _ h4, e _ _ h5, h6.ex e⟩, e _ _ h.cuts⟩
/-- where a dict of plain keys changes -/
theorem PatAt.mutD {k1 k2 : List (Key × V)} (h : PatAt K H r) (hq : H q = some (.dK k1)) (hq2 : H' q = some (.dK k2)) (hl : k2.length ≤ 100) (e : ∀ b x, b ≠ q → H b = some x → H' b = some x) : PatAt K H' r := by
  have go : ∀ {b : Addr} {o : HO}, H b = some o → (∀ z, o ≠ .dK z) → H' b = some o := by
    intro b o hb ho
    refine e b o ?_ hb
    rintro rfl
    rw [hq] at hb
    exact ho k1 (Option.some.inj hb).symm
  obtain ⟨dx, nd, kvs, h1, h2, h3⟩ := h.obj
  obtain ⟨pt, u, h4, h5, h6⟩ := h.puts
  refine ⟨?_, ⟨pt, u, go h4 (fun z w => nomatch w), go h5 (fun z w => nomatch w), ?_⟩, go h.cuts (fun z w => nomatch w)⟩
  · by_cases c : nd = q
    · subst c
      exact ⟨dx, nd, k2, go h1 (fun z w => nomatch w), hq2, by omega⟩
    · exact ⟨dx, nd, kvs, go h1 (fun z w => nomatch w), e _ _ c h2, h3⟩
  · cases hb : r.up with
    | false =>
      rw [hb] at h6
      exact h6
    | true =>
      rw [hb] at h6
      obtain ⟨t, w1, w2⟩ := h6
      exact ⟨t, w1, go w2 (fun z w => nomatch w)⟩
/-- where a list changes that is none of its own -/
theorem PatAt.mutL (h : PatAt K H r) (hq : H q = some (.lst xs)) (e : ∀ b x, b ≠ q → H b = some x → H' b = some x) (n1 : r.pl ≠ q) (n2 : r.cl ≠ q) : PatAt K H' r := by
  have go : ∀ {b : Addr} {o : HO}, H b = some o → (∀ z, o ≠ .lst z) → H' b = some o := by
    intro b o hb ho
    refine e b o ?_ hb
    rintro rfl
    rw [hq] at hb
    exact ho xs (Option.some.inj hb).symm
  obtain ⟨dx, nd, kvs, h1, h2, h3⟩ := h.obj
  obtain ⟨pt, u, h4, h5, h6⟩ := h.puts
  refine ⟨⟨dx, nd, kvs, go h1 (fun z w => nomatch w), go h2 (fun z w => nomatch w), h3⟩, ⟨pt, u, e _ _ n1 h4, go h5 (fun z w => nomatch w), ?_⟩, e _ _ n2 h.cuts⟩
  cases hb : r.up with
  | false =>
    rw [hb] at h6
    exact h6
  | true =>
    rw [hb] at h6
    obtain ⟨t, w1, w2⟩ := h6
    exact ⟨t, w1, go w2 (fun z w => nomatch w)⟩
end
theorem Two.len {f : Str} {R : List PR} (h : Two f R) : R.length ≤ 2 := by
  cases h with
  | no => exact Nat.zero_le _
  | one => exact (by decide : 1 ≤ 2)
  | two => exact Nat.le_refl 2
theorem Two.here {f : Str} {L1 L2 : List PR} {r : PR} (h : Two f (ofF f (L1 ++ r :: L2))) (hr : r.fl = f) : (r.up = false → ofF f L1 = []) ∧ (r.up = true → ∃ x, ofF f L1 = [x] ∧ x.up = false) := by
  have e : ofF f (L1 ++ r :: L2) = ofF f L1 ++ r :: ofF f L2 := by
    unfold ofF
    rw [List.filter_append, List.filter_cons, if_pos (decide_eq_true hr)]
  rw [e] at h
  generalize ofF f L1 = A at h
  generalize ofF f L2 = B at h
  cases A with
  | nil =>
    refine ⟨fun _ => rfl, fun hu => ?_⟩
    rw [List.nil_append] at h
    cases h with
    | one x h1 => rw [h1] at hu; cases hu
    | two x y h1 => rw [h1] at hu; cases hu
  | cons x A =>
    cases A with
    | nil =>
      have h' : Two f (x :: r :: B) := h
      cases h' with
      | two _ _ h1 h2 h3 h4 => exact ⟨fun hu => (by rw [h4] at hu; cases hu), fun _ => ⟨x, rfl, h1⟩⟩
    | cons y A =>
      exfalso
      have hl := h.len
      rw [List.length_append, List.length_cons, List.length_cons, List.length_cons] at hl
      omega
end Pk
namespace Pk
open PySem PySem.Spec PyProof.Rows L2
theorem split_one {pre post : List Addr} {k t : Addr} (h : pre ++ k :: post = [t]) : pre = [] ∧ post = [] ∧ k = t := by
  cases pre with
  | nil =>
    rw [List.nil_append] at h
    injection h with h1 h2
    exact ⟨rfl, h2, h1⟩
  | cons a pre =>
    exfalso
    have z := congrArg List.length h
    simp at z
theorem split_two {pre post : List Addr} {k t t' : Addr} (h : pre ++ k :: post = [t, t']) : (pre = [] ∧ post = [t'] ∧ k = t) ∨ (pre = [t] ∧ post = [] ∧ k = t') := by
  cases pre with
  | nil =>
    rw [List.nil_append] at h
    injection h with h1 h2
    exact .inl ⟨rfl, h2, h1⟩
  | cons a pre =>
    rw [List.cons_append] at h
    injection h with h1 h2
    obtain ⟨q1, q2, q3⟩ := split_one h2
    exact .inr ⟨by rw [h1, q1], q2, q3⟩
/-- who may come next: the first of those that are left, alone -/
theorem turn_of {H : Hp} {p k0 : Addr} {R : List PR} {f : Str} {pre post : List Addr} (tw : Two f R) (ah : AheadAt H p R) (ak : AllAt KeyR H (pre ++ k0 :: post) R) :
    ∃ (kvs : List (List Key × V)) (rl : List PR) (ys : List (Addr × PR)) (b : Addr × PR → Bool), H p = some (.dT kvs) ∧ AllAt KeyR H (k0 :: post) rl ∧ ys.map (fun z => z.1) = k0 :: post ∧
      (∀ z ∈ ys, KeyR H z.1 z.2 ∧ ∃ m mk, valV kvs (kT z.2.nm) = some (.ref m) ∧ H m = some (.dT mk) ∧ b z = (rl.all fun r => (valV mk (kT r.nm)).isNone)) ∧ (ys.filter b).map (fun z => z.1) = [k0] := by
  cases tw with
  | no =>
    exfalso
    have z := ak.len
    simp at z
  | one x h1 h2 h3 =>
    obtain ⟨m, a1, a2⟩ := ah
    obtain ⟨t, et, kt⟩ := ak.ts1
    obtain ⟨rfl, rfl, rfl⟩ := split_one et
    refine ⟨_, [x], [(k0, x)], fun _ => true, a1, ⟨kt, trivial⟩, rfl, ?_, rfl⟩
    intro z hz
    rw [List.mem_singleton] at hz
    subst hz
    exact ⟨kt, m, [], valV_pos rfl, a2, rfl⟩
  | two x y h1 h2 h3 h4 h5 h6 =>
    obtain ⟨m, n, a1, a2, a3⟩ := ah
    obtain ⟨t, t', et, kt, kt'⟩ := ak.ts2
    have ne : ¬ kT x.nm = kT y.nm := fun z => h5 (by rw [← kT_inj z, h2])
    have vy : ∀ v w : V, valV [(kT x.nm, v), (kT y.nm, w)] (kT y.nm) = some w := fun v w => by
      rw [valV_neg ne]
      exact valV_pos rfl
    rcases split_two et with ⟨rfl, rfl, rfl⟩ | ⟨rfl, rfl, rfl⟩
    · refine ⟨_, [x, y], [(k0, x), (t', y)], fun z => !z.2.up, a1, ⟨kt, kt', trivial⟩, rfl, ?_, ?_⟩
      · intro z hz
        rcases List.mem_cons.mp hz with hz | hz
        · subst hz
          refine ⟨kt, m, [], valV_pos rfl, a2, ?_⟩
          show (!x.up) = _
          rw [h1]
          rfl
        · rw [List.mem_singleton] at hz
          subst hz
          refine ⟨kt', n, _, vy _ _, a3, ?_⟩
          show (!y.up) = _
          rw [h4]
          have e : valV [(kT x.nm, V.bl true)] (kT x.nm) = some (.bl true) := valV_pos rfl
          rw [List.all_cons, e]
          rfl
      · rw [List.filter_cons, List.filter_cons]
        show (if (!x.up) = true then _ else _ : List (Addr × PR)).map (fun z => z.1) = [k0]
        rw [h1, h4]
        rfl
    · refine ⟨_, [y], [(k0, y)], fun _ => true, a1, ⟨kt', trivial⟩, rfl, ?_, rfl⟩
      intro z hz
      rw [List.mem_singleton] at hz
      subst hz
      refine ⟨kt', n, _, vy _ _, a3, ?_⟩
      have e : valV [(kT x.nm, V.bl true)] (kT y.nm) = none := valV_neg ne
      rw [List.all_cons, e]
      rfl
end Pk
namespace Pk
open PySem PySem.Spec PyProof.Rows L2
theorem passN {X : Cx} : Passes (L2N.CX X.prog X.w) X E0 := fun _ _ _ _ _ _ _ h => by
  obtain ⟨_, _, _, _, _, _, _, _, _, _, _, _, z⟩ := h
  exact z.elim
theorem valV_mem {κ : Type} [DecidableEq κ] {kvs : List (κ × V)} {k : κ} {v : V} (h : valV kvs k = some v) : ∃ p ∈ kvs, p.1 = k ∧ p.2 = v := by
  unfold valV at h
  cases f : kvs.find? fun kv => decide (kv.1 = k) with
  | none =>
    rw [f] at h
    cases h
  | some p =>
    rw [f] at h
    cases h
    exact ⟨p, List.mem_of_find?_eq_some f, of_decide_eq_true (List.find?_some (p := fun (kv : κ × V) => decide (kv.1 = k)) f), rfl⟩
theorem valV_some {κ : Type} [DecidableEq κ] {kvs : List (κ × V)} {k : κ} (h : k ∈ kvs.map (·.1)) : ∃ v, valV kvs k = some v := by
  cases e : valV kvs k with
  | none => exact absurd h (valV_not e)
  | some v => exact ⟨v, rfl⟩
theorem valV_none {κ : Type} [DecidableEq κ] {kvs : List (κ × V)} {k : κ} (h : ¬ k ∈ kvs.map (·.1)) : valV kvs k = none := by
  cases e : valV kvs k with
  | none => rfl
  | some v => exact absurd (valV_in e) h
theorem rd_nokey {κ : Type} [DecidableEq κ] {kvs : List (κ × V)} {k : κ} {A B : Prop} (h : valV kvs k = none) (q : B) : if (valV kvs k).isSome = true then A else B := by
  rw [h]
  exact rd_F q
theorem rd_key {κ : Type} [DecidableEq κ] {kvs : List (κ × V)} {k : κ} {v : V} {A B : Prop} (h : valV kvs k = some v) (q : A) : if (valV kvs k).isSome = true then A else B := by
  rw [h]
  exact rd_T q
theorem rd_tyD {K : PySem.W.Frag} {H : Hp} {p : Addr} {kvs : List (Key × V)} {B : Prop} (h : H p = some (.dK kvs)) (q : B) : tyV K "dict" (.ref p) H ∧ B := ⟨.inr (.inr (.inl ⟨rfl, .inl ⟨kvs, h⟩⟩)), q⟩
theorem putK_old {κ : Type} [DecidableEq κ] {kvs : List (κ × V)} {k : κ} (v : V) (h : k ∈ kvs.map (·.1)) : (putK kvs k v).map (·.1) = kvs.map (·.1) := by
  obtain ⟨w, hw⟩ := valV_some h
  unfold putK
  rw [if_pos (by rw [valV_any, hw]; rfl), List.map_map]
  refine List.map_congr_left fun p hp => ?_
  show (if p.1 = k then (p.1, v) else p).1 = p.1
  split
  · rfl
  · rfl
def firsts (L : List PR) : List Str := (L.filter fun r => !r.up).map PR.fl
theorem firsts_le (L : List PR) : (firsts L).length ≤ L.length := by
  unfold firsts
  rw [List.length_map]
  exact List.length_filter_le _ _
theorem firsts_snoc (L : List PR) (r : PR) : firsts (L ++ [r]) = if r.up = true then firsts L else firsts L ++ [r.fl] := by
  unfold firsts
  rw [List.filter_append, List.map_append]
  cases h : r.up with
  | true =>
    have e : [r].filter (fun r => !r.up) = [] := by simp [h]
    rw [e, if_pos rfl]
    exact List.append_nil _
  | false =>
    have e : [r].filter (fun r => !r.up) = [r] := by simp [h]
    rw [e, if_neg Bool.false_ne_true]
    rfl
theorem firsts_mem {L : List PR} {f : Str} : f ∈ firsts L ↔ ∃ r ∈ L, r.up = false ∧ r.fl = f := by
  unfold firsts
  rw [List.mem_map]
  constructor
  · rintro ⟨r, hr, e⟩
    obtain ⟨h1, h2⟩ := List.mem_filter.mp hr
    exact ⟨r, h1, by simpa using h2, e⟩
  · rintro ⟨r, h1, h2, e⟩
    exact ⟨r, List.mem_filter.mpr ⟨h1, by simp [h2]⟩, e⟩
theorem ofF_mem {L : List PR} {f : Str} {r : PR} : r ∈ ofF f L ↔ r ∈ L ∧ r.fl = f := by
  unfold ofF
  rw [List.mem_filter]
  simp
def madeK (L : List PR) : List (Key × V) := L.map fun r => ((Sum.inr r.nm : Key), V.ref r.ad)
theorem madeK_keys (L : List PR) : (madeK L).map (·.1) = L.map fun r => (Sum.inr r.nm : Key) := by
  unfold madeK
  rw [List.map_map]
  rfl
/-- a desk: f0 the store whose patches these are, the others have none -/
structure DeskF (K : PySem.W.Frag) (H : Hp) (a m h b0 : Addr) (f0 : Str) (kvs : List (Key × V)) (ns : List Str) (kv0 : List (Key × V)) (L : List PR) : Prop where
  ins : ∃ dx, H a = some (.ins (He.ga K "Desk") dx [("made", .ref m), ("having", .ref h)])
  made : H m = some (.dK (madeK L))
  hav : H h = some (.dK kvs)
  keys : kvs.map (·.1) = ns.map Sum.inr
  vals : ∀ p ∈ kvs, ∃ b, p.2 = .ref b ∧ b ≠ m ∧ b ≠ h ∧ (p.1 = Sum.inr f0 → b = b0) ∧ (p.1 ≠ Sum.inr f0 → b ≠ b0 ∧ H b = some (.dK []))
  own : H b0 = some (.dK kv0)
  okeys : kv0.map (·.1) = L.map fun r => (Sum.inr r.nm : Key)
  nf : f0 ∈ ns
  ln : ns.length ≤ 20
  lL : L.length ≤ 20
  pats : ∀ r ∈ L, PatAt K H r
  two : ∀ f, Two f (ofF f L)
  nd : (L.map PR.nm).Nodup
  dif : m ≠ h ∧ b0 ≠ m ∧ b0 ≠ h
section
variable {K : PySem.W.Frag} {H H' : Hp} {a m h b0 q : Addr} {f0 s n : Str} {kvs kv0 : List (Key × V)} {ns : List Str} {L : List PR} {xs : List V}
theorem DeskF.ex (d : DeskF K H a m h b0 f0 kvs ns kv0 L) (e : Ex H H') : DeskF K H' a m h b0 f0 kvs ns kv0 L := by
  obtain ⟨dx, hi⟩ := d.ins
  exact ⟨⟨dx, e _ _ hi⟩, e _ _ d.made, e _ _ d.hav, d.keys, fun p hp => by
    obtain ⟨b, e1, e2, e3, e4, e5⟩ := d.vals p hp
    exact ⟨b, e1, e2, e3, e4, fun c => ⟨(e5 c).1, e _ _ (e5 c).2⟩⟩, e _ _ d.own, d.okeys, d.nf, d.ln, d.lL, fun r hr => (d.pats r hr).ex e, d.two, d.nd, d.dif⟩
theorem DeskF.mutL (d : DeskF K H a m h b0 f0 kvs ns kv0 L) (hq : H q = some (.lst xs)) (e : ∀ b x, b ≠ q → H b = some x → H' b = some x) (nq : ∀ r ∈ L, r.pl ≠ q ∧ r.cl ≠ q) : DeskF K H' a m h b0 f0 kvs ns kv0 L := by
  have go : ∀ {b : Addr} {o : HO}, H b = some o → (∀ z, o ≠ .lst z) → H' b = some o := by
    intro b o hb ho
    refine e b o ?_ hb
    rintro rfl
    rw [hq] at hb
    exact ho xs (Option.some.inj hb).symm
  obtain ⟨dx, hi⟩ := d.ins
  exact ⟨⟨dx, go hi (fun _ z => nomatch z)⟩, go d.made (fun _ z => nomatch z), go d.hav (fun _ z => nomatch z), d.keys, fun p hp => by
    obtain ⟨b, e1, e2, e3, e4, e5⟩ := d.vals p hp
    exact ⟨b, e1, e2, e3, e4, fun c => ⟨(e5 c).1, go (e5 c).2 (fun _ z => nomatch z)⟩⟩, go d.own (fun _ z => nomatch z), d.okeys, d.nf, d.ln, d.lL, fun r hr => (d.pats r hr).mutL hq e (nq r hr).1 (nq r hr).2, d.two, d.nd, d.dif⟩
theorem DeskF.klen (d : DeskF K H a m h b0 f0 kvs ns kv0 L) : kvs.length = ns.length := by
  have z := congrArg List.length d.keys
  rw [List.length_map, List.length_map] at z
  exact z
theorem DeskF.olen (d : DeskF K H a m h b0 f0 kvs ns kv0 L) : kv0.length = L.length := by
  have z := congrArg List.length d.okeys
  rw [List.length_map, List.length_map] at z
  exact z
theorem DeskF.names (d : DeskF K H a m h b0 f0 kvs ns kv0 L) : kvs.map (fun kv => kV kv.1) = ns.map V.str := by
  have z := congrArg (List.map kV) d.keys
  rw [List.map_map, List.map_map] at z
  exact z
theorem DeskF.store (d : DeskF K H a m h b0 f0 kvs ns kv0 L) (hs : s ∈ ns) : ∃ b, valV kvs (Sum.inr s) = some (.ref b) ∧ b ≠ m ∧ b ≠ h ∧ ((s = f0 ∧ b = b0 ∧ H b = some (.dK kv0)) ∨ (s ≠ f0 ∧ H b = some (.dK []))) := by
  obtain ⟨v, hv⟩ := valV_some (kvs := kvs) (k := (Sum.inr s : Key)) (by rw [d.keys]; exact List.mem_map.mpr ⟨s, hs, rfl⟩)
  obtain ⟨p, hp, e1, e2⟩ := valV_mem hv
  obtain ⟨b, q1, q2, q3, q4, q5⟩ := d.vals p hp
  rw [q1] at e2
  subst e2
  refine ⟨b, hv, q2, q3, ?_⟩
  by_cases c : s = f0
  · have z := q4 (by rw [e1, c])
    subst z
    exact .inl ⟨c, rfl, d.own⟩
  · exact .inr ⟨c, (q5 (by rw [e1]; exact fun w => c (Sum.inr.inj w))).2⟩
theorem DeskF.nostore (d : DeskF K H a m h b0 f0 kvs ns kv0 L) (hs : s ∉ ns) : valV kvs (Sum.inr s) = none :=
  valV_none (by
    rw [d.keys]
    intro z
    obtain ⟨t, ht, et⟩ := List.mem_map.mp z
    cases et
    exact hs ht)
theorem made_pat (hn : n ∈ L.map PR.nm) : ∃ r ∈ L, r.nm = n ∧ valV (madeK L) (Sum.inr n) = some (.ref r.ad) := by
  obtain ⟨r0, h0, e0⟩ := List.mem_map.mp hn
  obtain ⟨v, hv⟩ := valV_some (kvs := madeK L) (k := (Sum.inr n : Key)) (by rw [madeK_keys]; exact List.mem_map.mpr ⟨r0, h0, by rw [e0]⟩)
  obtain ⟨p, hp, e1, e2⟩ := valV_mem hv
  obtain ⟨r, hr, er⟩ := List.mem_map.mp hp
  subst er
  refine ⟨r, hr, Sum.inr.inj e1, ?_⟩
  rw [hv, ← e2]
theorem same_of : ∀ {L : List PR}, (L.map PR.nm).Nodup → ∀ {x y : PR}, x ∈ L → y ∈ L → x.nm = y.nm → x = y
  | [], _, _, _, h, _, _ => absurd h List.not_mem_nil
  | z :: L, nd, x, y, hx, hy, e => by
    rw [List.map_cons, List.nodup_cons] at nd
    rcases List.mem_cons.mp hx with h1 | h1
    · rcases List.mem_cons.mp hy with h2 | h2
      · rw [h1, h2]
      · exact absurd (show z.nm ∈ L.map PR.nm from List.mem_map.mpr ⟨y, h2, by rw [← e, h1]⟩) nd.1
    · rcases List.mem_cons.mp hy with h2 | h2
      · exact absurd (show z.nm ∈ L.map PR.nm from List.mem_map.mpr ⟨x, h1, by rw [e, h2]⟩) nd.1
      · exact same_of nd.2 h1 h2 e
theorem made_nopat (hn : n ∉ L.map PR.nm) : valV (madeK L) (Sum.inr n) = none :=
  valV_none (by
    rw [madeK_keys]
    intro z
    obtain ⟨r, hr, er⟩ := List.mem_map.mp z
    exact hn (List.mem_map.mpr ⟨r, hr, Sum.inr.inj er⟩))
theorem DeskF.own_in (d : DeskF K H a m h b0 f0 kvs ns kv0 L) (hn : n ∈ L.map PR.nm) : (valV kv0 (Sum.inr n)).isSome = true := by
  obtain ⟨r0, h0, e0⟩ := List.mem_map.mp hn
  obtain ⟨v, hv⟩ := valV_some (kvs := kv0) (k := (Sum.inr n : Key)) (by rw [d.okeys]; exact List.mem_map.mpr ⟨r0, h0, by rw [e0]⟩)
  rw [hv]
  rfl
theorem DeskF.own_no (d : DeskF K H a m h b0 f0 kvs ns kv0 L) (hn : n ∉ L.map PR.nm) : valV kv0 (Sum.inr n) = none :=
  valV_none (by
    rw [d.okeys]
    intro z
    obtain ⟨r, hr, er⟩ := List.mem_map.mp z
    exact hn (List.mem_map.mpr ⟨r, hr, Sum.inr.inj er⟩))
/-- one more store -/
theorem DeskF.begin {H1 : Hp} {b : Addr} (d : DeskF K H a m h b0 f0 kvs ns kv0 L) (hs : s ∉ ns) (hl : ns.length < 20) (nb : H b = none) (hb : H1 b = some (.dK [])) (e : Ex H H1) (e2 : ∀ c x, c ≠ h → H1 c = some x → H' c = some x) (hv : H' h = some (.dK (putK kvs (Sum.inr s) (.ref b)))) :
    DeskF K H' a m h b0 f0 (putK kvs (Sum.inr s) (.ref b)) (ns ++ [s]) kv0 L := by
  have d1 := d.ex e
  obtain ⟨dx, hi⟩ := d1.ins
  have ne : ∀ {c : Addr} {o : HO}, H1 c = some o → (∀ z, o ≠ .dK z) → H' c = some o := by
    intro c o hc ho
    refine e2 c o ?_ hc
    rintro rfl
    rw [d1.hav] at hc
    exact ho kvs (Option.some.inj hc).symm
  have bm : b ≠ m := by rintro rfl; rw [d.made] at nb; cases nb
  have bh : b ≠ h := by rintro rfl; rw [d.hav] at nb; cases nb
  have bb : b ≠ b0 := by rintro rfl; rw [d.own] at nb; cases nb
  have pk : putK kvs (Sum.inr s : Key) (V.ref b) = kvs ++ [(Sum.inr s, V.ref b)] := putK_new _ (d.nostore hs)
  have ln2 : (ns ++ [s]).length ≤ 20 := by rw [List.length_append]; show ns.length + 1 ≤ 20; omega
  refine ⟨⟨dx, ne hi (fun _ z => nomatch z)⟩, e2 _ _ d.dif.1 d1.made, hv, ?_, ?_, e2 _ _ d.dif.2.2 d1.own, d.okeys, List.mem_append_left _ d.nf, ln2, d.lL, fun r hr => ?_, d.two, d.nd, d.dif⟩
  · rw [pk, List.map_append, List.map_append, d.keys]
    rfl
  · rw [pk]
    intro p hp
    rcases List.mem_append.mp hp with hp | hp
    · obtain ⟨c, q1, q2, q3, q4, q5⟩ := d1.vals p hp
      exact ⟨c, q1, q2, q3, q4, fun w => ⟨(q5 w).1, e2 _ _ q3 (q5 w).2⟩⟩
    · rw [List.mem_singleton] at hp
      subst hp
      refine ⟨b, rfl, bm, bh, fun w => ?_, fun _ => ⟨bb, e2 _ _ bh hb⟩⟩
      have z := Sum.inr.inj w
      subst z
      exact absurd d.nf hs
  · refine (d1.pats r hr).mutD d1.hav hv ?_ e2
    rw [pk, List.length_append, d.klen]
    show ns.length + 1 ≤ 100
    omega
/-- the very first store -/
theorem DeskF.first {b : Addr} (hi : ∃ dx, H' a = some (.ins (He.ga K "Desk") dx [("made", .ref m), ("having", .ref h)])) (hm : H' m = some (.dK [])) (hv : H' h = some (.dK [((Sum.inr f0 : Key), V.ref b)])) (hb : H' b = some (.dK [])) (n1 : m ≠ h) (n2 : b ≠ m) (n3 : b ≠ h) :
    DeskF K H' a m h b f0 [((Sum.inr f0 : Key), V.ref b)] [f0] [] [] := by
  refine ⟨hi, hm, hv, rfl, ?_, hb, rfl, List.mem_singleton.mpr rfl, Nat.le_of_ble_eq_true rfl, Nat.le_of_ble_eq_true rfl, fun r hr => absurd hr List.not_mem_nil, fun f => .no, List.nodup_nil, n1, n2, n3⟩
  intro p hp
  rw [List.mem_singleton] at hp
  subst hp
  exact ⟨b, rfl, n2, n3, fun _ => rfl, fun w => absurd rfl w⟩
/-- one more patch -/
theorem DeskF.record {H1 H2 H3 : Hp} {r : PR} (d : DeskF K H1 a m h b0 f0 kvs ns kv0 L) (hn : r.nm ∉ L.map PR.nm) (hl : L.length < 20) (hp : PatAt K H1 r) (h2 : ∀ f, Two f (ofF f (L ++ [r])))
    (e2 : ∀ c x, c ≠ m → H1 c = some x → H2 c = some x) (m2 : H2 m = some (.dK (putK (madeK L) (Sum.inr r.nm) (.ref r.ad)))) (e3 : ∀ c x, c ≠ b0 → H2 c = some x → H3 c = some x) (m3 : H3 b0 = some (.dK (putK kv0 (Sum.inr r.nm) (.bl true)))) :
    DeskF K H3 a m h b0 f0 kvs ns (putK kv0 (Sum.inr r.nm) (.bl true)) (L ++ [r]) := by
  obtain ⟨dx, hi⟩ := d.ins
  obtain ⟨n1, n2, n3⟩ := d.dif
  have g2 : ∀ {c : Addr} {o : HO}, H1 c = some o → (∀ z, o ≠ .dK z) → H2 c = some o := by
    intro c o hc ho
    refine e2 c o ?_ hc
    rintro rfl
    rw [d.made] at hc
    exact ho _ (Option.some.inj hc).symm
  have o2 : H2 b0 = some (.dK kv0) := e2 _ _ n2 d.own
  have g3 : ∀ {c : Addr} {o : HO}, H1 c = some o → (∀ z, o ≠ .dK z) → H3 c = some o := by
    intro c o hc ho
    refine e3 c o ?_ (g2 hc ho)
    rintro rfl
    rw [d.own] at hc
    exact ho _ (Option.some.inj hc).symm
  have pm : putK (madeK L) (Sum.inr r.nm : Key) (V.ref r.ad) = madeK (L ++ [r]) := by
    rw [putK_new _ (made_nopat hn)]
    unfold madeK
    rw [List.map_append]
    rfl
  have po : putK kv0 (Sum.inr r.nm : Key) (V.bl true) = kv0 ++ [(Sum.inr r.nm, V.bl true)] := putK_new _ (d.own_no hn)
  have lL : (L ++ [r]).length ≤ 20 := by rw [List.length_append]; show L.length + 1 ≤ 20; omega
  have nd2 : ((L ++ [r]).map PR.nm).Nodup := by
    rw [List.map_append]
    exact nd_snoc d.nd hn
  have all : ∀ x, PatAt K H1 x → PatAt K H3 x := fun x hx => by
    refine (hx.mutD d.made m2 ?_ e2).mutD o2 m3 ?_ e3
    · rw [pm]
      unfold madeK
      rw [List.length_map]
      omega
    · rw [po, List.length_append, d.olen]
      show L.length + 1 ≤ 100
      omega
  refine ⟨⟨dx, g3 hi (fun _ z => nomatch z)⟩, ?_, e3 _ _ (Ne.symm n3) (e2 _ _ (Ne.symm n1) d.hav), d.keys, ?_, m3, ?_, d.nf, d.ln, lL, ?_, h2, nd2, d.dif⟩
  · rw [← pm]
    exact e3 _ _ (Ne.symm n2) m2
  · intro p hp
    obtain ⟨c, q1, q2, q3, q4, q5⟩ := d.vals p hp
    exact ⟨c, q1, q2, q3, q4, fun w => ⟨(q5 w).1, e3 _ _ (q5 w).1 (e2 _ _ q2 (q5 w).2)⟩⟩
  · rw [po, List.map_append, List.map_append, d.okeys]
    rfl
  · intro x hx
    rcases List.mem_append.mp hx with hx | hx
    · exact all x (d.pats x hx)
    · rw [List.mem_singleton] at hx
      subst hx
      exact all x hp
end
end Pk
namespace Pk
open PySem PySem.Spec PyProof.Rows L2
theorem lc_one (f : Str) : Lc [f] [f, f] 0 0 = 1 ∧ Lc [f] [f, f] 1 1 = 0 := by
  have e0 : ∀ ys : List Str, lcs [] ys = 0 := lcs_nil_left
  have e1 : ∀ xs : List Str, lcs xs [] = 0 := lcs_nil_right
  constructor
  · show lcs [f] [f, f] = 1
    rw [lcs_cons, lcs_cons]
    simp [e0, e1]
  · show lcs [] [f] = 0
    exact e0 _
theorem kept_one {f : Str} {fs : List (Nat × Nat)} (h : Kept [f] [f, f] 0 0 fs) : fs = [(0, 0)] := by
  have hit : Hit [f] [f, f] 0 0 0 0 := ⟨Nat.le_refl _, Nat.le_refl _, by show 0 < 1; omega, by show 0 < 2; omega, rfl, by rw [(lc_one f).1, (lc_one f).2]⟩
  cases h with
  | nil hn => exact absurd hit (hn 0 0)
  | cons hn s =>
    rename_i i j t
    have a1 : i < 1 := hn.1.2.2.1
    have a2 := hn.2 0 0 hit
    simp only at a2
    have ei : i = 0 := by omega
    have ej : j = 0 := by omega
    subst ei ej
    have lt := s.length
    rw [(lc_one f).2] at lt
    rw [List.length_eq_zero_iff.mp lt]
theorem kept_nil {f : Str} {fs : List (Nat × Nat)} (h : Kept [] [f] 0 0 fs) : fs = [] := by
  have z := h.length
  have e : Lc [] [f] 0 0 = 0 := lcs_nil_left _
  rw [e] at z
  exact List.length_eq_zero_iff.mp z
section
variable {K : PySem.W.Frag} {H : Hp} {Q : VK} {x y : V}
theorem rd_eqNo {d d' : PyData} (h1 : Dp K H x d) (h2 : Dp K H y d') (s1 : SeqAt.shaped d = true) (s2 : SeqAt.shaped d' = true) (e : PyData.eqv d d' = false) (q : Q (.bl false) H) : rEqD K x y H Q := ⟨d, d', h1, h2, s1, s2, by rw [e]; exact q⟩
end
theorem ofF_snoc (g : Str) (L : List PR) (r : PR) : ofF g (L ++ [r]) = if r.fl = g then ofF g L ++ [r] else ofF g L := by
  unfold ofF
  rw [List.filter_append]
  split
  · rename_i c
    have e : [r].filter (fun r => decide (r.fl = g)) = [r] := by simp [c]
    rw [e]
  · rename_i c
    have e : [r].filter (fun r => decide (r.fl = g)) = [] := by simp [c]
    rw [e, List.append_nil]
theorem two_first {L : List PR} {r : PR} (h : ∀ g, Two g (ofF g L)) (e : ofF r.fl L = []) (hu : r.up = false) (hn : r.nm = r.fl) : ∀ g, Two g (ofF g (L ++ [r])) := by
  intro g
  rw [ofF_snoc]
  split
  · rename_i c
    subst c
    rw [e]
    exact .one r hu hn rfl
  · exact h g
theorem two_second {L : List PR} {r x : PR} (h : ∀ g, Two g (ofF g L)) (e : ofF r.fl L = [x]) (hu : r.up = true) (hn : r.nm ∉ L.map PR.nm) : ∀ g, Two g (ofF g (L ++ [r])) := by
  intro g
  rw [ofF_snoc]
  split
  · rename_i c
    subst c
    have t := h r.fl
    have hx : x ∈ L := (ofF_mem.mp (by rw [e]; exact List.mem_singleton.mpr rfl : x ∈ ofF r.fl L)).1
    rw [e] at t ⊢
    cases t with
    | one _ h1 h2 h3 => exact .two x r h1 h2 h3 hu (fun z => hn (by rw [z, ← h2]; exact List.mem_map.mpr ⟨x, hx, rfl⟩)) rfl
  · exact h g
end Pk
namespace Pk
open PySem PySem.Spec PyProof.Rows L2
theorem lt_anti : ∀ {a b : List Nat}, ltCps a b = false → ltCps b a = false → a = b
  | [], [], _, _ => rfl
  | [], _ :: _, h, _ => by cases h
  | _ :: _, [], _, h => by cases h
  | x :: a, y :: b, h1, h2 => by
    unfold ltCps at h1 h2
    have p : ¬ x < y ∧ ¬ (x = y ∧ ltCps a b = true) := by
      constructor
      · intro z
        simp [z] at h1
      · rintro ⟨rfl, z⟩
        simp [z] at h1
    have q : ¬ y < x := by
      intro z
      simp [z] at h2
    have e : x = y := by omega
    subst e
    have a1 : ltCps a b = false := by
      cases c : ltCps a b with
      | false => rfl
      | true => exact absurd ⟨rfl, c⟩ p.2
    have a2 : ltCps b a = false := by
      cases c : ltCps b a with
      | false => rfl
      | true => simp [c] at h2
    rw [lt_anti a1 a2]
/-- not later, and not later: not later -/
theorem le_trans3 : ∀ {a b c : List Nat}, ltCps b a = false → ltCps c b = false → ltCps c a = false
  | [], [], [], _, _ => rfl
  | [], [], _ :: _, _, _ => rfl
  | [], _ :: _, [], _, h => by cases h
  | [], _ :: _, _ :: _, _, _ => rfl
  | _ :: _, [], _, h, _ => by cases h
  | _ :: _, _ :: _, [], _, h => by cases h
  | x :: a, y :: b, z :: c, h1, h2 => by
    unfold ltCps at h1 h2 ⊢
    have p1 : ¬ y < x := fun w => by simp [w] at h1
    have p2 : ¬ z < y := fun w => by simp [w] at h2
    have p3 : ¬ z < x := by omega
    by_cases e : z = x
    · have e1 : x = y := by omega
      have e2 : z = y := by omega
      subst e1 e2
      have a1 : ltCps b a = false := by
        cases w : ltCps b a with
        | false => rfl
        | true => simp [w] at h1
      have a2 : ltCps c b = false := by
        cases w : ltCps c b with
        | false => rfl
        | true => simp [w] at h2
      simp [le_trans3 a1 a2]
    · simp [p3, e]
def LeS (a b : Str) : Prop := ltCps b.cps.toList a.cps.toList = false
theorem LeS.anti {a b : Str} (h1 : LeS a b) (h2 : LeS b a) : a = b := by
  have z := lt_anti h2 h1
  cases a with
  | mk a =>
    cases b with
    | mk b => rw [show a = b from Array.toList_inj.mp z]
theorem LeS.trans {a b c : Str} (h1 : LeS a b) (h2 : LeS b c) : LeS a c := le_trans3 h1 h2
theorem rising_all : ∀ {l : List Str} {p : Str}, risingS p l = true → (∀ x ∈ l, LeS p x) ∧ sortedS l = true
  | [], p, _ => ⟨fun x h => absurd h List.not_mem_nil, rfl⟩
  | y :: l, p, h => by
    unfold risingS at h
    obtain ⟨h1, h2⟩ := Bool.and_eq_true_iff.mp h
    have a : LeS p y := by
      unfold LeS
      cases w : ltCps y.cps.toList p.cps.toList with
      | false => rfl
      | true => rw [w] at h1; cases h1
    have b := rising_all h2
    refine ⟨fun x hx => ?_, h2⟩
    rcases List.mem_cons.mp hx with hx | hx
    · rw [hx]
      exact a
    · exact a.trans (b.1 x hx)
/-- two sorted lists of the same texts are one -/
theorem sorted_one : ∀ {l m : List Str}, l.Perm m → sortedS l = true → sortedS m = true → l = m
  | [], m, h, _, _ => (List.Perm.nil_eq h)
  | x :: l, [], h, _, _ => absurd h.length_eq (by simp)
  | x :: l, y :: m, h, h1, h2 => by
    have a := rising_all (p := x) (l := l) h1
    have b := rising_all (p := y) (l := m) h2
    have e : x = y := by
      have hx : x ∈ y :: m := h.mem_iff.mp List.mem_cons_self
      have hy : y ∈ x :: l := h.mem_iff.mpr List.mem_cons_self
      rcases List.mem_cons.mp hx with hx | hx
      · exact hx
      · rcases List.mem_cons.mp hy with hy | hy
        · exact hy.symm
        · exact LeS.anti (a.1 y hy) (b.1 x hx)
    subst e
    rw [sorted_one (List.Perm.cons_inv h) a.2 b.2]
end Pk
local macro_rules | `(tactic| wtm_at "hs") => `(tactic| first
  | assumption
  | exact upd_same
  | exact L2.SqL.of upd_same
  | exact L2.SqL.of (by assumption)
  | (refine' Pk.keep_new (by assumption) ?rdz; (case rdz => wtm_at "hs"))
  | (refine' Pk.Ex.at (by assumption) ?rdz; (case rdz => wtm_at "hs"))
  | (refine' Pk.Ex.seqL (by assumption) ?rdz; (case rdz => wtm_at "hs"))
  | (refine' Pk.Ex.seqL (Pk.Ex.new (by assumption)) ?rdz; (case rdz => wtm_at "hs"))
  | (refine' L2.SqL.of ?rdz; (case rdz => wtm_at "hs")))
local macro_rules | `(tactic| wtm_at "go1") => `(tactic| first
  | ((with_reducible refine' Pk.rd_var ?rdh ?rdq); (case rdh => rfl))
  | (with_reducible refine Pk.rd_c ?_)
  | (with_reducible refine Pk.rd_op ?_)
  | (with_reducible refine Pk.rd_seq ?_)
  | (with_reducible refine Pk.rd_asg ?_)
  | (with_reducible refine Pk.rd_gname ?_)
  | (with_reducible refine Pk.rd_nx ?_)
  | (with_reducible refine Pk.rd_rt ?_)
  | (with_reducible refine Pk.rd_bk ?_)
  | (with_reducible refine Pk.rd_I0 ?_)
  | (with_reducible refine Pk.rd_cons ?_)
  | (with_reducible refine Pk.rd_nil ?_)
  | (with_reducible refine Pk.rd_cb ?_)
  | (with_reducible refine Pk.rd_ifs ?_)
  | (with_reducible refine Pk.rd_test ?_)
  | (with_reducible refine Pk.rd_bl ?_)
  | (with_reducible refine Pk.rd_B ?_)
  | (with_reducible refine Pk.rd_ret ?_)
  | (with_reducible refine Pk.rd_next ?_)
  | (with_reducible refine Pk.rd_drop ?_)
  | (with_reducible refine Pk.rd_call ?_)
  | (with_reducible refine Pk.rd_eqi ?_)
  | (with_reducible refine Pk.rd_nei ?_)
  | (with_reducible refine Pk.rd_eqs ?_)
  | (with_reducible refine Pk.rd_nes ?_)
  | (with_reducible refine Pk.rd_tand ?_)
  | (with_reducible refine Pk.rd_tor ?_)
  | (with_reducible refine Pk.rd_tnot ?_)
  | (with_reducible refine Pk.rd_andV ?_)
  | (with_reducible refine Pk.rd_orV ?_)
  | (with_reducible refine Pk.rd_notV ?_)
  | (with_reducible refine Pk.rd_ifx ?_)
  | (with_reducible refine Pk.rd_chain ?_)
  | (with_reducible refine Pk.rd_T ?_)
  | (with_reducible refine Pk.rd_F ?_)
  | (with_reducible refine Pk.rd_nT ?_)
  | (with_reducible refine Pk.rd_nF ?_)
  | (with_reducible refine Pk.rd_tup ?_)
  | (with_reducible refine Pk.rd_lst ?_)
  | (with_reducible refine Pk.rd_un ?_)
  | (with_reducible refine Pk.rd_U ?_)
  | (with_reducible refine Pk.rd_bm ?_)
  | (with_reducible refine Pk.rd_bm0 ?_)
  | (with_reducible refine Pk.rd_gsub ?_)
  | (with_reducible refine Pk.rd_int2 ?_)
  | (with_reducible refine Pk.rd_int1 ?_)
  | (with_reducible refine Pk.rd_brk ?_)
  | (with_reducible refine Pk.rd_retN ?_)
  | (with_reducible refine Pk.rd_for ?_)
  | (with_reducible refine Pk.rd_rng1 ?_)
  | (with_reducible refine Pk.rd_rng2 ?_)
  | (with_reducible refine Pk.rd_revR ?_)
  | (with_reducible refine Pk.rd_rg1 ?_)
  | (with_reducible refine Pk.rd_rg2 ?_)
  | (with_reducible refine Pk.rd_iList ?_)
  | (with_reducible refine Pk.rd_ref ?_)
  | (with_reducible refine Pk.rd_int ?_)
  | (with_reducible refine Pk.rd_isn ?_)
  | ((with_reducible refine' Pk.rd_mod ?rdh ?rdq); (case rdh => first | decide | omega))
  | ((with_reducible refine' Pk.rd_div ?rdh ?rdq); (case rdh => first | decide | omega))
  | ((with_reducible refine' Pk.rd_mul ?rdh ?rdq); (case rdh => first | exact Or.inl ⟨by decide, by decide⟩ | exact Or.inr ⟨by decide, by decide⟩ | omega))
  | (with_reducible refine Pk.rd_m1 ?_)
  | (with_reducible refine Pk.rd_isS ?_)
  | (with_reducible refine Pk.rd_dput ?_)
  | (with_reducible refine Pk.rd_dget ?_)
  | (with_reducible refine Pk.rd_dget2 ?_)
  | (with_reducible refine Pk.rd_din ?_)
  | (with_reducible refine Pk.rd_dnotin ?_)
  | (with_reducible refine Pk.rd_dnewK ?_)
  | (with_reducible refine Pk.rd_dnewT ?_)
  | (with_reducible refine Pk.rd_while ?_)
  | (with_reducible refine Pk.rd_lc ?_)
  | (with_reducible refine Pk.rd_tyes ?_)
  | (with_reducible refine Pk.rd_rev ?_)
  | (with_reducible refine Pk.rd_enum ?_)
  | (with_reducible refine Pk.rd_iTup ?_)
  | (with_reducible refine Pk.rd_iStr ?_)
  | (with_reducible refine Pk.rd_str1 ?_)
  | (with_reducible refine Pk.rd_fld ?_)
  | (with_reducible refine Pk.rd_sfld ?_)
  | (with_reducible refine Pk.rd_meth ?_)
  | (with_reducible refine Pk.rd_methH ?_)
  | (with_reducible refine Pk.rd_callS ?_)
  | (with_reducible refine Pk.rd_make ?_)
  | (with_reducible refine Pk.rd_sl ?_)
  | (with_reducible refine Pk.rd_part ?_)
  | (with_reducible refine Pk.rd_nopart ?_)
  | ((with_reducible refine' Pk.rd_rlen _ ?rdh ?rdq); (case rdh => wtm_at "hs"))
  | ((with_reducible refine' Pk.rd_tyL ?rdh ?rdq); (case rdh => wtm_at "hs")))
local macro_rules | `(tactic| wtm_at "go") => `(tactic| (repeat wtm_at "go1"))
namespace PkC
open PySem PySem.Spec PyProof.Rows L2
def top (i : Nat) : Stmt := PySem.Challenge.pw_patchkin_k16_rooms_of_names.main.body.getD i (.Pass ⟨0, 0, 0, 0⟩)
abbrev s_wall : Stmt := top 0
abbrev s_lengths : Stmt := top 2
abbrev s_next_pair : Stmt := top 3
abbrev s_kept : Stmt := top 4
abbrev s_Patch_init__ : Stmt := inClass (top 14) 0
abbrev s_live_of : Stmt := top 15
abbrev s_lines_of : Stmt := top 16
abbrev s_aheads : Stmt := top 17
abbrev s_standing : Stmt := top 18
abbrev s_may_come : Stmt := top 19
abbrev s_row_of : Stmt := top 20
abbrev s_quarrels_of : Stmt := top 21
abbrev s_look_at : Stmt := top 24
abbrev s_puts_of : Stmt := top 25
abbrev s_Desk_init__ : Stmt := inClass (top 26) 0
abbrev s_Desk_look_for : Stmt := inClass (top 26) 1
abbrev s_Desk_chosen : Stmt := inClass (top 26) 2
abbrev s_Desk_fresh : Stmt := inClass (top 26) 3
abbrev s_Desk_keep : Stmt := inClass (top 26) 4
abbrev s_Desk_begin : Stmt := inClass (top 26) 5
abbrev s_Desk_stores : Stmt := inClass (top 26) 6
abbrev s_Desk_patches : Stmt := inClass (top 26) 7
abbrev s_Desk_has : Stmt := inClass (top 26) 8
abbrev s_Desk_record : Stmt := inClass (top 26) 9
abbrev s_Desk_cut : Stmt := inClass (top 26) 10
abbrev s_Desk_back : Stmt := inClass (top 26) 11
abbrev s_Desk_take : Stmt := inClass (top 26) 12
abbrev s_Desk_drop : Stmt := inClass (top 26) 13
abbrev s_Desk_leans : Stmt := inClass (top 26) 14
abbrev s_Desk_told : Stmt := inClass (top 26) 15
abbrev s_Desk_files : Stmt := inClass (top 26) 16
abbrev s_Desk_row : Stmt := inClass (top 26) 17
abbrev s_Desk_quarrels : Stmt := inClass (top 26) 18
abbrev s_Desk_stay : Stmt := inClass (top 26) 19
abbrev s_law_cell_at : Stmt := top 28
abbrev s_law_name : Stmt := top 29
abbrev s_law_names_are : Stmt := top 30
abbrev s_law_taken : Stmt := top 31
abbrev s_law : Stmt := top 32
/-- what the top has written -/
structure Txt (K : PySem.W.Frag) (mg : Str → Option Value) : Prop where
  g_lengths : mg "lengths" = some (.ref (He.ga K "lengths"))
  k_lengths : PySem.W.keepIn K (.ref (He.ga K "lengths")) = true
  F_lengths : ∃ fd, FunD K "lengths" "lengths" (defArgs s_lengths) (defBody s_lengths) (defScope s_lengths) [] [] (He.fAd K ("lengths", none)) fd
  g_next_pair : mg "next_pair" = some (.ref (He.ga K "next_pair"))
  k_next_pair : PySem.W.keepIn K (.ref (He.ga K "next_pair")) = true
  F_next_pair : ∃ fd, FunD K "next_pair" "next_pair" (defArgs s_next_pair) (defBody s_next_pair) (defScope s_next_pair) [] [] (He.fAd K ("next_pair", none)) fd
  g_kept : mg "kept" = some (.ref (He.ga K "kept"))
  k_kept : PySem.W.keepIn K (.ref (He.ga K "kept")) = true
  F_kept : ∃ fd, FunD K "kept" "kept" (defArgs s_kept) (defBody s_kept) (defScope s_kept) [] [] (He.fAd K ("kept", none)) fd
  F_Patch_init__ : ∃ fd, FunD K "__init__" "Patch.__init__" (defArgs s_Patch_init__) (defBody s_Patch_init__) (defScope s_Patch_init__) [] [] (He.fAd K ("Patch", some "__init__")) fd
  g_live_of : mg "live_of" = some (.ref (He.ga K "live_of"))
  k_live_of : PySem.W.keepIn K (.ref (He.ga K "live_of")) = true
  F_live_of : ∃ fd, FunD K "live_of" "live_of" (defArgs s_live_of) (defBody s_live_of) (defScope s_live_of) [] [] (He.fAd K ("live_of", none)) fd
  g_lines_of : mg "lines_of" = some (.ref (He.ga K "lines_of"))
  k_lines_of : PySem.W.keepIn K (.ref (He.ga K "lines_of")) = true
  F_lines_of : ∃ fd, FunD K "lines_of" "lines_of" (defArgs s_lines_of) (defBody s_lines_of) (defScope s_lines_of) [] [] (He.fAd K ("lines_of", none)) fd
  g_aheads : mg "aheads" = some (.ref (He.ga K "aheads"))
  k_aheads : PySem.W.keepIn K (.ref (He.ga K "aheads")) = true
  F_aheads : ∃ fd, FunD K "aheads" "aheads" (defArgs s_aheads) (defBody s_aheads) (defScope s_aheads) [] [] (He.fAd K ("aheads", none)) fd
  g_standing : mg "standing" = some (.ref (He.ga K "standing"))
  k_standing : PySem.W.keepIn K (.ref (He.ga K "standing")) = true
  F_standing : ∃ fd, FunD K "standing" "standing" (defArgs s_standing) (defBody s_standing) (defScope s_standing) [] [] (He.fAd K ("standing", none)) fd
  g_may_come : mg "may_come" = some (.ref (He.ga K "may_come"))
  k_may_come : PySem.W.keepIn K (.ref (He.ga K "may_come")) = true
  F_may_come : ∃ fd, FunD K "may_come" "may_come" (defArgs s_may_come) (defBody s_may_come) (defScope s_may_come) [] [] (He.fAd K ("may_come", none)) fd
  g_row_of : mg "row_of" = some (.ref (He.ga K "row_of"))
  k_row_of : PySem.W.keepIn K (.ref (He.ga K "row_of")) = true
  F_row_of : ∃ fd, FunD K "row_of" "row_of" (defArgs s_row_of) (defBody s_row_of) (defScope s_row_of) [] [] (He.fAd K ("row_of", none)) fd
  g_quarrels_of : mg "quarrels_of" = some (.ref (He.ga K "quarrels_of"))
  k_quarrels_of : PySem.W.keepIn K (.ref (He.ga K "quarrels_of")) = true
  F_quarrels_of : ∃ fd, FunD K "quarrels_of" "quarrels_of" (defArgs s_quarrels_of) (defBody s_quarrels_of) (defScope s_quarrels_of) [] [] (He.fAd K ("quarrels_of", none)) fd
  g_look_at : mg "look_at" = some (.ref (He.ga K "look_at"))
  k_look_at : PySem.W.keepIn K (.ref (He.ga K "look_at")) = true
  F_look_at : ∃ fd, FunD K "look_at" "look_at" (defArgs s_look_at) (defBody s_look_at) (defScope s_look_at) [] [] (He.fAd K ("look_at", none)) fd
  g_puts_of : mg "puts_of" = some (.ref (He.ga K "puts_of"))
  k_puts_of : PySem.W.keepIn K (.ref (He.ga K "puts_of")) = true
  F_puts_of : ∃ fd, FunD K "puts_of" "puts_of" (defArgs s_puts_of) (defBody s_puts_of) (defScope s_puts_of) [] [] (He.fAd K ("puts_of", none)) fd
  F_Desk_init__ : ∃ fd, FunD K "__init__" "Desk.__init__" (defArgs s_Desk_init__) (defBody s_Desk_init__) (defScope s_Desk_init__) [] [] (He.fAd K ("Desk", some "__init__")) fd
  m_Desk_look_for : Meth K (He.ga K "Desk") "look_for" (He.ma K (He.ga K "Desk") "look_for")
  F_Desk_look_for : ∃ fd, FunD K "look_for" "Desk.look_for" (defArgs s_Desk_look_for) (defBody s_Desk_look_for) (defScope s_Desk_look_for) [] [] (He.fAd K ("Desk", some "look_for")) fd
  m_Desk_chosen : Meth K (He.ga K "Desk") "chosen" (He.ma K (He.ga K "Desk") "chosen")
  F_Desk_chosen : ∃ fd, FunD K "chosen" "Desk.chosen" (defArgs s_Desk_chosen) (defBody s_Desk_chosen) (defScope s_Desk_chosen) [] [] (He.fAd K ("Desk", some "chosen")) fd
  m_Desk_fresh : Meth K (He.ga K "Desk") "fresh" (He.ma K (He.ga K "Desk") "fresh")
  F_Desk_fresh : ∃ fd, FunD K "fresh" "Desk.fresh" (defArgs s_Desk_fresh) (defBody s_Desk_fresh) (defScope s_Desk_fresh) [] [] (He.fAd K ("Desk", some "fresh")) fd
  m_Desk_keep : Meth K (He.ga K "Desk") "keep" (He.ma K (He.ga K "Desk") "keep")
  F_Desk_keep : ∃ fd, FunD K "keep" "Desk.keep" (defArgs s_Desk_keep) (defBody s_Desk_keep) (defScope s_Desk_keep) [] [] (He.fAd K ("Desk", some "keep")) fd
  m_Desk_begin : Meth K (He.ga K "Desk") "begin" (He.ma K (He.ga K "Desk") "begin")
  F_Desk_begin : ∃ fd, FunD K "begin" "Desk.begin" (defArgs s_Desk_begin) (defBody s_Desk_begin) (defScope s_Desk_begin) [] [] (He.fAd K ("Desk", some "begin")) fd
  m_Desk_stores : Meth K (He.ga K "Desk") "stores" (He.ma K (He.ga K "Desk") "stores")
  F_Desk_stores : ∃ fd, FunD K "stores" "Desk.stores" (defArgs s_Desk_stores) (defBody s_Desk_stores) (defScope s_Desk_stores) [] [] (He.fAd K ("Desk", some "stores")) fd
  m_Desk_patches : Meth K (He.ga K "Desk") "patches" (He.ma K (He.ga K "Desk") "patches")
  F_Desk_patches : ∃ fd, FunD K "patches" "Desk.patches" (defArgs s_Desk_patches) (defBody s_Desk_patches) (defScope s_Desk_patches) [] [] (He.fAd K ("Desk", some "patches")) fd
  m_Desk_row : Meth K (He.ga K "Desk") "row" (He.ma K (He.ga K "Desk") "row")
  F_Desk_row : ∃ fd, FunD K "row" "Desk.row" (defArgs s_Desk_row) (defBody s_Desk_row) (defScope s_Desk_row) [] [] (He.fAd K ("Desk", some "row")) fd
  m_Desk_files : Meth K (He.ga K "Desk") "files" (He.ma K (He.ga K "Desk") "files")
  F_Desk_files : ∃ fd, FunD K "files" "Desk.files" (defArgs s_Desk_files) (defBody s_Desk_files) (defScope s_Desk_files) [] [] (He.fAd K ("Desk", some "files")) fd
  m_Desk_quarrels : Meth K (He.ga K "Desk") "quarrels" (He.ma K (He.ga K "Desk") "quarrels")
  F_Desk_quarrels : ∃ fd, FunD K "quarrels" "Desk.quarrels" (defArgs s_Desk_quarrels) (defBody s_Desk_quarrels) (defScope s_Desk_quarrels) [] [] (He.fAd K ("Desk", some "quarrels")) fd
  m_Desk_record : Meth K (He.ga K "Desk") "record" (He.ma K (He.ga K "Desk") "record")
  F_Desk_record : ∃ fd, FunD K "record" "Desk.record" (defArgs s_Desk_record) (defBody s_Desk_record) (defScope s_Desk_record) [] [] (He.fAd K ("Desk", some "record")) fd
  g_law_cell_at : mg "_law_cell_at" = some (.ref (He.ga K "_law_cell_at"))
  k_law_cell_at : PySem.W.keepIn K (.ref (He.ga K "_law_cell_at")) = true
  F_law_cell_at : ∃ fd, FunD K "_law_cell_at" "_law_cell_at" (defArgs s_law_cell_at) (defBody s_law_cell_at) (defScope s_law_cell_at) [] [] (He.fAd K ("_law_cell_at", none)) fd
  g_law_name : mg "_law_name" = some (.ref (He.ga K "_law_name"))
  k_law_name : PySem.W.keepIn K (.ref (He.ga K "_law_name")) = true
  F_law_name : ∃ fd, FunD K "_law_name" "_law_name" (defArgs s_law_name) (defBody s_law_name) (defScope s_law_name) [] [] (He.fAd K ("_law_name", none)) fd
  g_law_names_are : mg "_law_names_are" = some (.ref (He.ga K "_law_names_are"))
  k_law_names_are : PySem.W.keepIn K (.ref (He.ga K "_law_names_are")) = true
  F_law_names_are : ∃ fd, FunD K "_law_names_are" "_law_names_are" (defArgs s_law_names_are) (defBody s_law_names_are) (defScope s_law_names_are) [] [] (He.fAd K ("_law_names_are", none)) fd
  g_law_taken : mg "_law_taken" = some (.ref (He.ga K "_law_taken"))
  k_law_taken : PySem.W.keepIn K (.ref (He.ga K "_law_taken")) = true
  F_law_taken : ∃ fd, FunD K "_law_taken" "_law_taken" (defArgs s_law_taken) (defBody s_law_taken) (defScope s_law_taken) [] [] (He.fAd K ("_law_taken", none)) fd
  g_law : mg "law" = some (.ref (He.ga K "law"))
  k_law : PySem.W.keepIn K (.ref (He.ga K "law")) = true
  F_law : ∃ fd, FunD K "law" "law" (defArgs s_law) (defBody s_law) (defScope s_law) [] [] (He.fAd K ("law", none)) fd
  g_Patch : mg "Patch" = some (.ref (He.ga K "Patch"))
  c_Patch : Cls K (He.ga K "Patch")
  m_Patch : Mk K (He.ga K "Patch") (He.ma K (He.ga K "Patch") "__init__")
  g_Desk : mg "Desk" = some (.ref (He.ga K "Desk"))
  c_Desk : Cls K (He.ga K "Desk")
  m_Desk : Mk K (He.ga K "Desk") (He.ma K (He.ga K "Desk") "__init__")
  n_Patch_name : NoAttr K (He.ga K "Patch") "name"
  n_Patch_file : NoAttr K (He.ga K "Patch") "file"
  n_Patch_puts : NoAttr K (He.ga K "Patch") "puts"
  n_Patch_cuts : NoAttr K (He.ga K "Patch") "cuts"
  n_Patch_other : NoAttr K (He.ga K "Patch") "other"
  n_Patch_needs : NoAttr K (He.ga K "Patch") "needs"
  n_Desk_made : NoAttr K (He.ga K "Desk") "made"
  n_Desk_having : NoAttr K (He.ga K "Desk") "having"
  g_PatchError : mg "PatchError" = some (.ref (He.ga K "PatchError"))
  x_PatchError : PySem.W.excIn K (He.ga K "PatchError") [.type "ValueError", .type "Exception", .type "BaseException", .type "object"] "ValueError.__new__" = true
  k_PatchError : PySem.W.keepIn K (.ref (He.ga K "PatchError")) = true
  s_PatchError : PySem.W.subIn K (.ref (He.ga K "PatchError")) (.type "BaseException") = some true
  t_PatchError : PySem.W.typeIn K (.ref (He.ga K "PatchError")) = some (.type "type")
  g_BadName : mg "BadName" = some (.ref (He.ga K "BadName"))
  x_BadName : PySem.W.excIn K (He.ga K "BadName") [.type "ValueError", .type "Exception", .type "BaseException", .type "object"] "ValueError.__new__" = true
  k_BadName : PySem.W.keepIn K (.ref (He.ga K "BadName")) = true
  s_BadName : PySem.W.subIn K (.ref (He.ga K "BadName")) (.type "BaseException") = some true
  t_BadName : PySem.W.typeIn K (.ref (He.ga K "BadName")) = some (.type "type")
  g_NameTaken : mg "NameTaken" = some (.ref (He.ga K "NameTaken"))
  x_NameTaken : PySem.W.excIn K (He.ga K "NameTaken") [.type "ValueError", .type "Exception", .type "BaseException", .type "object"] "ValueError.__new__" = true
  k_NameTaken : PySem.W.keepIn K (.ref (He.ga K "NameTaken")) = true
  s_NameTaken : PySem.W.subIn K (.ref (He.ga K "NameTaken")) (.type "BaseException") = some true
  t_NameTaken : PySem.W.typeIn K (.ref (He.ga K "NameTaken")) = some (.type "type")
  g_NoStore : mg "NoStore" = some (.ref (He.ga K "NoStore"))
  x_NoStore : PySem.W.excIn K (He.ga K "NoStore") [.type "ValueError", .type "Exception", .type "BaseException", .type "object"] "ValueError.__new__" = true
  k_NoStore : PySem.W.keepIn K (.ref (He.ga K "NoStore")) = true
  s_NoStore : PySem.W.subIn K (.ref (He.ga K "NoStore")) (.type "BaseException") = some true
  t_NoStore : PySem.W.typeIn K (.ref (He.ga K "NoStore")) = some (.type "type")
  g_NoPatch : mg "NoPatch" = some (.ref (He.ga K "NoPatch"))
  x_NoPatch : PySem.W.excIn K (He.ga K "NoPatch") [.type "ValueError", .type "Exception", .type "BaseException", .type "object"] "ValueError.__new__" = true
  k_NoPatch : PySem.W.keepIn K (.ref (He.ga K "NoPatch")) = true
  s_NoPatch : PySem.W.subIn K (.ref (He.ga K "NoPatch")) (.type "BaseException") = some true
  t_NoPatch : PySem.W.typeIn K (.ref (He.ga K "NoPatch")) = some (.type "type")
  g_Unsettled : mg "Unsettled" = some (.ref (He.ga K "Unsettled"))
  x_Unsettled : PySem.W.excIn K (He.ga K "Unsettled") [.type "ValueError", .type "Exception", .type "BaseException", .type "object"] "ValueError.__new__" = true
  k_Unsettled : PySem.W.keepIn K (.ref (He.ga K "Unsettled")) = true
  s_Unsettled : PySem.W.subIn K (.ref (He.ga K "Unsettled")) (.type "BaseException") = some true
  t_Unsettled : PySem.W.typeIn K (.ref (He.ga K "Unsettled")) = some (.type "type")
  g_Same : mg "Same" = some (.ref (He.ga K "Same"))
  x_Same : PySem.W.excIn K (He.ga K "Same") [.type "ValueError", .type "Exception", .type "BaseException", .type "object"] "ValueError.__new__" = true
  k_Same : PySem.W.keepIn K (.ref (He.ga K "Same")) = true
  s_Same : PySem.W.subIn K (.ref (He.ga K "Same")) (.type "BaseException") = some true
  t_Same : PySem.W.typeIn K (.ref (He.ga K "Same")) = some (.type "type")
  b_dict : mg "dict" = none
  b_enumerate : mg "enumerate" = none
  b_isinstance : mg "isinstance" = none
  b_len : mg "len" = none
  b_list : mg "list" = none
  b_max : mg "max" = none
  b_range : mg "range" = none
  b_reversed : mg "reversed" = none
  b_sorted : mg "sorted" = none
  b_str : mg "str" = none
  v_SIGNS : ∃ t, mg "SIGNS" = some (.str "abcdefghijklmnopqrstuvwxyz0123456789" t)
  e_NameTaken : PySem.W.exmOne K (.ref (He.ga K "NameTaken")) (.ref (He.ga K "NameTaken")) = some true
end PkC
namespace PkC
open PySem PySem.Spec PyProof.Rows L2
theorem sc_lengths : FnScope ["old", "new", "rows", "i", "j"] ["old", "new"] (defScope s_lengths) := ⟨rfl, rfl, rfl, by decide +kernel, rfl, by decide +kernel, by decide +kernel⟩
/-- the table of Lc -/
def sp_lengths (K : PySem.W.Frag) : Sp := fun vs H Q _ => ∃ (a b : Addr) (old new : List Str), vs = [.ref a, .ref b] ∧
  SqL K H a (old.map V.str) ∧ SqL K H b (new.map V.str) ∧ old.length ≤ 1000 ∧ new.length ≤ 1000 ∧
  ∀ (r : Addr) (rs : List Addr) (f : Nat → Nat → Nat) (H' : Hp), Pk.Ex H H' → Pk.Tab H' r rs old.length new.length f → (∀ i j, i ≤ old.length → j ≤ new.length → f i j = Pk.Lc old new i j) → Q (.ref r) H'
theorem sp_lengths_len {K : PySem.W.Frag} {vs : List V} {H : Hp} {Q : VK} {E : XK} (h : sp_lengths K vs H Q E) : vs.length = 2 := by
  obtain ⟨_, _, _, _, rfl, _⟩ := h
  rfl
/-- a table that is only laid while H stands may be changed -/
theorem tab_fresh {H0 H : Hp} {a r : Addr} {rs : List Addr} {n m : Nat} {f : Nat → Nat → Nat} (e : ∀ x ∈ rs, H0 x = none) (t : Pk.Tab H r rs n m f) {i : Nat} (ha : rs[i]? = some a) : H0 a = none := e a (List.mem_of_getElem? ha)
section
variable {P : Program} {w : World} {K : PySem.W.Frag} {mg : Str → Option Value} {base : Heap}
theorem ok_lengths (T : Txt K mg) : Pk.Ok P w K mg base CX0 1 (He.fAd K ("lengths", none)) ["old", "new"] (sp_lengths K) := by
  obtain ⟨fd, F⟩ := T.F_lengths
  refine ⟨fd, F.ok sc_lengths ?len ?body, F.bindsN fun _ _ _ _ _ _ us hl => match us, hl with | [_, _], _ => rfl⟩
  case len => exact fun vs H Q E h => sp_lengths_len h
  intro cdv A outer s H vs Q E hr h
  have hu := hu_of hr
  have hu64 := hr.units
  have hu65 := Pk.units65 hr
  refine ⟨_, PSs.nox ((pss_cons (ps_setLc (i := 2) (own := [("i", 3)]) (g := gName 3) (tt := tYes) rfl sc_lengths.nd rfl rfl (sw_true rfl rfl rfl (by decide +kernel)) (pi_range1 rfl T.b_range (pa_cons (pe_op op_add (pe_callB (Pk.lenK K) (by rfl) T.b_len Pk.bt_len (pa_cons (pv 0) pa_nil)) pe_int) pa_nil)) (blkOk_by (own := [("i", 3)]) (N := ["old", "new", "rows", "i", "j"]) (sc := defScope s_lengths) (by decide +kernel)) (fun _ _ _ _ _ => (pg_name (i := 3) sc_lengths.nd rfl (Or.inl rfl))) (fun _ _ _ _ _ => pts_nil) (fun _ _ _ _ _ => (pe_lc (own := [("j", 4)]) (g := gName 4) (tt := tYes) rfl sc_lengths.nd (pi_range1 rfl T.b_range (pa_cons (pe_op op_add (pe_callB (Pk.lenK K) (by rfl) T.b_len Pk.bt_len (pa_cons (pv 1) pa_nil)) pe_int) pa_nil)) (blkOk_by (own := [("j", 4)]) (N := ["old", "new", "rows", "i", "j"]) (by kernel_rfl)) (fun _ _ _ _ _ => (pg_name (i := 4) sc_lengths.nd rfl (Or.inl rfl))) (fun _ _ _ _ _ => pts_nil) (fun _ _ _ _ _ => pe_int))))
      (pss_cons (ps_for PassesOwn.never rfl (pi_revR rfl T.b_reversed (prg_1 rfl T.b_range (pe_callB (Pk.lenK K) (by rfl) T.b_len Pk.bt_len (pa_cons (pv 0) pa_nil)))) (pg_name (i := 3) sc_lengths.nd rfl (Or.inl rfl)) (pss_one (ps_for PassesOwn.never rfl (pi_revR rfl T.b_reversed (prg_1 rfl T.b_range (pe_callB (Pk.lenK K) (by rfl) T.b_len Pk.bt_len (pa_cons (pv 1) pa_nil)))) (pg_name (i := 4) sc_lengths.nd rfl (Or.inl rfl)) (pss_cons (ps_asg (pe_callB (call_max2 rfl) (by rfl) T.b_max Pk.bt_max (pa_cons (pe_ix (Pk.ixL K) (pe_ix (Pk.ixL K) (pv 2) (pe_op op_add (pv 3) pe_int) (fun _ _ => rfl)) (pv 4) (fun _ _ => rfl)) (pa_cons (pe_ix (Pk.ixL K) (pe_ix (Pk.ixL K) (pv 2) (pv 3) (fun _ _ => rfl)) (pe_op op_add (pv 4) pe_int) (fun _ _ => rfl)) pa_nil))) (pg_sub (pe_ix (Pk.ixL K) (pv 2) (pv 3) (fun _ _ => rfl)) (pv 4) set_list))
      (pss_one (ps_if (pt_cmpR op_eq (pe_ix (Pk.ixL K) (pv 0) (pv 3) (fun _ _ => rfl)) (pe_ix (Pk.ixL K) (pv 1) (pv 4) (fun _ _ => rfl)) (nomark _)) (pss_one (ps_asg (pe_callB (call_max2 rfl) (by rfl) T.b_max Pk.bt_max (pa_cons (pe_ix (Pk.ixL K) (pe_ix (Pk.ixL K) (pv 2) (pv 3) (fun _ _ => rfl)) (pv 4) (fun _ _ => rfl)) (pa_cons (pe_op op_add pe_int (pe_ix (Pk.ixL K) (pe_ix (Pk.ixL K) (pv 2) (pe_op op_add (pv 3) pe_int) (fun _ _ => rfl)) (pe_op op_add (pv 4) pe_int) (fun _ _ => rfl))) pa_nil))) (pg_sub (pe_ix (Pk.ixL K) (pv 2) (pv 3) (fun _ _ => rfl)) (pv 4) set_list))) pss_nil))))))
      (pss_one (ps_ret (pv 2)))))), ?_⟩
  obtain ⟨a, b, old, new, rfl, hA, hB, lA, lB, q⟩ := h
  wtm_at "go"
  rw [List.length_map]
  refine ⟨by omega, by omega, fun D hD => lc_range (lo := 0) (n := ((old.length : Int) + 1).toNat) (fun i H' => Pk.Ex H H' ∧ ∃ rs : List Addr, rs.length = i ∧ rs.Nodup ∧ (∀ x ∈ rs, H x = none ∧ x ≠ D) ∧ H' D = some (.lst (rs.map V.ref)) ∧ ∀ k, (h : k < rs.length) → H' rs[k] = some (.lst ((List.range (new.length + 1)).map fun _ => V.int (0 : Nat)))) ?_ ?_ ?_⟩
  · exact ⟨Pk.Ex.new hD, [], rfl, List.nodup_nil, fun x hx => absurd hx List.not_mem_nil, upd_same, fun k hk => absurd hk (by simp)⟩
  · rintro i H' hi ⟨eH, rs, hlen, hnd, hfr, hDl, hrow⟩
    wtm_at "go"
    refine ⟨rfl, ?_⟩
    wtm_at "go"
    rw [List.length_map]
    refine ⟨by omega, by omega, Pk.lcR (fun _ => V.int (0 : Nat)) (by omega) (fun _ => rfl) (fun j hj H2 Q2 e2 q2 => q2) (fun d hd => ?_)⟩
    have hdD : d ≠ D := Ne.symm (ne_of_none hDl hd)
    refine ⟨_, by rw [upd_ne (ne_of_none hDl hd)]; exact hDl, by rw [List.length_map]; exact Pk.line_lt (by omega), ?_⟩
    have hn : ((new.length : Int) + 1).toNat = new.length + 1 := by omega
    rw [hn]
    have hdn : H d = none := eH.back hd
    refine ⟨(eH.trans (Pk.Ex.new hd)).mut hD, rs ++ [d], by rw [List.length_append, hlen]; rfl, ?_, ?_, ?_, ?_⟩
    · rw [List.nodup_append]
      refine ⟨hnd, by simp, fun x hx y hy => ?_⟩
      rw [List.mem_singleton] at hy
      subst hy
      obtain ⟨k, hk, rfl⟩ := List.getElem_of_mem hx
      exact ne_of_none (hrow k hk) hd
    · intro x hx
      rcases List.mem_append.mp hx with hx | hx
      · exact hfr x hx
      · rw [List.mem_singleton] at hx
        subst hx
        exact ⟨hdn, hdD⟩
    · rw [upd_same, List.map_append]
      rfl
    · intro k hk
      by_cases c : k < rs.length
      · rw [List.getElem_append_left c, upd_ne (hfr _ (List.getElem_mem c)).2, upd_ne (ne_of_none (hrow k c) hd)]
        exact hrow k c
      · have ek : k = rs.length := by
          rw [List.length_append] at hk
          simp at hk
          omega
        subst ek
        rw [List.getElem_append_right (Nat.le_refl _)]
        simp only [Nat.sub_self, List.getElem_cons_zero]
        rw [upd_ne hdD, upd_same]
  · rintro H1 ⟨eH, rs, hlen, hnd, hfr, hDl, hrow⟩
    have hn : ((old.length : Int) + 1).toNat = old.length + 1 := by omega
    rw [hn] at hlen
    have t0 : Pk.Tab H1 D rs old.length new.length (fun _ _ => 0) := ⟨hDl, hlen, hnd, hrow⟩
    wtm_at "go"
    rw [List.length_map]
    refine ⟨by omega, by omega, by omega, by omega, for_rangeC (lo := 0 + (((((old.length : Int) - 0).toNat : Nat) : Int)) - 1) (c := -1) (n := ((old.length : Int) - 0).toNat)
      (fun t σ H2 => Pk.Ex H H2 ∧ (∃ vi vj : Option V, σ = [some (.ref a), some (.ref b), some (.ref D), vi, vj]) ∧ ∃ f, Pk.Tab H2 D rs old.length new.length f ∧ ∀ i j, i ≤ old.length → j ≤ new.length → (old.length - t ≤ i ∨ j = new.length) → f i j = Pk.Lc old new i j) ?_ ?_ ?_⟩
    · refine ⟨eH, ⟨none, none, rfl⟩, _, t0, fun i j hi hj c => ?_⟩
      rcases c with c | c
      · rw [Pk.Lc_left (by omega)]
      · rw [Pk.Lc_right (by omega)]
    · rintro t σ H2 ht ⟨e2, ⟨vi, vj, rfl⟩, f, tb, hf⟩
      have hi : old.length - 1 - t < old.length := by omega
      have ei : (0 + (((((old.length : Int) - 0).toNat : Nat) : Int)) - 1 + (t : Nat) * (-1) : Int) = ((old.length - 1 - t : Nat) : Int) := by omega
      rw [ei]
      generalize hI : old.length - 1 - t = I at hi
      have hA2 := e2.seqL hA
      have hB2 := e2.seqL hB
      wtm_at "go"
      rw [List.length_map]
      refine ⟨by omega, by omega, by omega, by omega, for_rangeC (lo := 0 + (((((new.length : Int) - 0).toNat : Nat) : Int)) - 1) (c := -1) (n := ((new.length : Int) - 0).toNat)
        (fun u σ H3 => Pk.Ex H H3 ∧ (∃ vj : Option V, σ = [some (.ref a), some (.ref b), some (.ref D), some (.int (I : Int)), vj]) ∧ ∃ f, Pk.Tab H3 D rs old.length new.length f ∧ ∀ i j, i ≤ old.length → j ≤ new.length → (I < i ∨ (i = I ∧ new.length - u ≤ j) ∨ j = new.length) → f i j = Pk.Lc old new i j) ?_ ?_ ?_⟩
      · refine ⟨e2, ⟨vj, rfl⟩, f, tb, fun i j h1 h2 c => ?_⟩
        rcases c with c | c | c
        · exact hf i j h1 h2 (by omega)
        · exact hf i j h1 h2 (by omega)
        · exact hf i j h1 h2 (by omega)
      · rintro u σ H3 hu3 ⟨e3, ⟨vj2, rfl⟩, f3, tb3, hf3⟩
        have hj : new.length - 1 - u < new.length := by omega
        have ej : (0 + (((((new.length : Int) - 0).toNat : Nat) : Int)) - 1 + (u : Nat) * (-1) : Int) = ((new.length - 1 - u : Nat) : Int) := by omega
        rw [ej]
        generalize hJ : new.length - 1 - u = J at hj
        have eI : (I : Int) + 1 = ((I + 1 : Nat) : Int) := by omega
        have eJ : (J : Int) + 1 = ((J + 1 : Nat) : Int) := by omega
        obtain ⟨r0, x0, y0, z0⟩ := tb3.get1 (i := I) (by omega)
        obtain ⟨r1, x1, y1, z1⟩ := tb3.get1 (i := I + 1) (by omega)
        have v1 : f3 (I + 1) J = Pk.Lc old new (I + 1) J := hf3 _ _ (by omega) (by omega) (by omega)
        have v2 : f3 I (J + 1) = Pk.Lc old new I (J + 1) := hf3 _ _ (by omega) (by omega) (by omega)
        have v3 : f3 (I + 1) (J + 1) = Pk.Lc old new (I + 1) (J + 1) := hf3 _ _ (by omega) (by omega) (by omega)
        have st := Pk.Lc_step (xs := old) (ys := new) hi hj
        wtm_at "go"
        rw [eI]
        refine Pk.rd_ixL (SqL.of tb3.top) x1 ?_
        wtm_at "go"
        refine Pk.rd_ixL (SqL.of z1) (Pk.Tab.get2 (f := f3) (i := I + 1) (j := J) (by omega)) ?_
        wtm_at "go"
        refine Pk.rd_ixL (SqL.of tb3.top) x0 ?_
        wtm_at "go"
        rw [eJ]
        refine Pk.rd_ixL (SqL.of z0) (Pk.Tab.get2 (f := f3) (i := I) (j := J + 1) (by omega)) ?_
        wtm_at "go"
        refine Pk.rd_ixL (SqL.of tb3.top) x0 ?_
        wtm_at "go"
        have em : (if ((f3 I (J + 1) : Nat) : Int) > ((f3 (I + 1) J : Nat) : Int) then ((f3 I (J + 1) : Nat) : Int) else ((f3 (I + 1) J : Nat) : Int)) = ((max (f3 (I + 1) J) (f3 I (J + 1)) : Nat) : Int) := by
          split <;> omega
        rw [em]
        generalize hM : max (f3 (I + 1) J) (f3 I (J + 1)) = M
        refine Pk.rd_setL z0 (by rw [List.length_map, List.length_range]; omega) ?_
        have hr0 : H r0 = none := (hfr r0 (List.mem_of_getElem? y0)).1
        obtain ⟨f4, g4, k4, tb4⟩ : ∃ f4 : Nat → Nat → Nat, f4 I J = M ∧ (∀ i j, ¬ (i = I ∧ j = J) → f4 i j = f3 i j) ∧ Pk.Tab (upd H3 r0 (.lst (((List.range (new.length + 1)).map fun j => V.int (f3 I j : Nat)).set J (.int (M : Int))))) D rs old.length new.length f4 :=
          ⟨_, if_pos ⟨rfl, rfl⟩, fun i j h => if_neg h, tb3.put (j := J) (v := M) y0⟩
        have e4 := e3.mut (p := r0) (o := .lst (((List.range (new.length + 1)).map fun j => V.int (f3 I j : Nat)).set J (.int (M : Int)))) hr0
        generalize hH4 : upd H3 r0 (.lst (((List.range (new.length + 1)).map fun j => V.int (f3 I j : Nat)).set J (.int (M : Int)))) = H4 at tb4 e4 ⊢
        have hA4 := e4.seqL hA
        have hB4 := e4.seqL hB
        wtm_at "go"
        refine Pk.rd_ixL hA4 (Pk.at_mapN hi) ?_
        wtm_at "go"
        refine Pk.rd_ixL hB4 (Pk.at_mapN hj) ?_
        wtm_at "go"
        refine Pk.rd_dec (fun c => ?_) (fun c => ?_)
        · obtain ⟨q0, x0, y0, z0⟩ := tb4.get1 (i := I) (by omega)
          obtain ⟨q1, x1, y1, z1⟩ := tb4.get1 (i := I + 1) (by omega)
          wtm_at "go"
          refine Pk.rd_ixL (SqL.of tb4.top) x0 ?_
          wtm_at "go"
          refine Pk.rd_ixL (SqL.of z0) (Pk.Tab.get2 (f := f4) (i := I) (j := J) (by omega)) ?_
          wtm_at "go"
          rw [eI]
          refine Pk.rd_ixL (SqL.of tb4.top) x1 ?_
          wtm_at "go"
          rw [eJ]
          refine Pk.rd_ixL (SqL.of z1) (Pk.Tab.get2 (f := f4) (i := I + 1) (j := J + 1) (by omega)) ?_
          wtm_at "go"
          refine Pk.rd_ixL (SqL.of tb4.top) x0 ?_
          wtm_at "go"
          have w2 : f4 (I + 1) (J + 1) = f3 (I + 1) (J + 1) := k4 _ _ (by omega)
          have em2 : (if 1 + ((f4 (I + 1) (J + 1) : Nat) : Int) > ((f4 I J : Nat) : Int) then 1 + ((f4 (I + 1) (J + 1) : Nat) : Int) else ((f4 I J : Nat) : Int)) = ((max (f4 I J) (1 + f4 (I + 1) (J + 1)) : Nat) : Int) := by
            split <;> omega
          rw [em2]
          generalize hM2 : max (f4 I J) (1 + f4 (I + 1) (J + 1)) = M2
          refine Pk.rd_setL z0 (by rw [List.length_map, List.length_range]; omega) ?_
          have tb5 := tb4.put (j := J) (v := M2) y0
          have hq0 : H q0 = none := (hfr q0 (List.mem_of_getElem? y0)).1
          wtm_at "go"
          refine ⟨e4.mut hq0, ⟨_, rfl⟩, _, tb5, fun i j h1 h2 cc => ?_⟩
          rw [if_pos c] at st
          by_cases d : i = I ∧ j = J
          · rw [if_pos d, d.1, d.2]
            omega
          · rw [if_neg d, k4 i j d]
            exact hf3 i j h1 h2 (by omega)
        · wtm_at "go"
          refine ⟨e4, ⟨_, rfl⟩, f4, tb4, fun i j h1 h2 cc => ?_⟩
          rw [if_neg c] at st
          by_cases d : i = I ∧ j = J
          · rw [d.1, d.2, g4]
            omega
          · rw [k4 i j d]
            exact hf3 i j h1 h2 (by omega)
      · rintro σ H3 ⟨e3, ⟨vj2, rfl⟩, f3, tb3, hf3⟩
        wtm_at "go"
        exact ⟨e3, ⟨_, _, rfl⟩, f3, tb3, fun i j h1 h2 c => hf3 i j h1 h2 (by omega)⟩
    · rintro σ H2 ⟨e2, ⟨vi, vj, rfl⟩, f, tb, hf⟩
      wtm_at "go"
      exact q D rs f H2 e2 tb fun i j h1 h2 => hf i j h1 h2 (by omega)
end
end PkC
namespace PkC
open PySem PySem.Spec PyProof.Rows L2
theorem sc_next_pair : FnScope ["old", "new", "rows", "left", "right", "i", "j"] ["old", "new", "rows", "left", "right"] (defScope s_next_pair) := ⟨rfl, rfl, rfl, by decide +kernel, rfl, by decide +kernel, by decide +kernel⟩
/-- the first pair from (l, r) on that begins as many as can be -/
def sp_next_pair (K : PySem.W.Frag) : Sp := fun vs H Q _ => ∃ (a b r : Addr) (old new : List Str) (rs : List Addr) (l rr : Nat) (f : Nat → Nat → Nat), vs = [.ref a, .ref b, .ref r, .int (l : Int), .int (rr : Int)] ∧
  SqL K H a (old.map V.str) ∧ SqL K H b (new.map V.str) ∧ old.length ≤ 1000 ∧ new.length ≤ 1000 ∧ Pk.Tab H r rs old.length new.length f ∧ (∀ i j, i ≤ old.length → j ≤ new.length → f i j = Pk.Lc old new i j) ∧ l ≤ old.length ∧ rr ≤ new.length ∧
  ∀ (o : Option (Nat × Nat)) (v : V) (H' : Hp), Pk.IsNext old new l rr o → Pk.Ex H H' → Pk.PairV H' v o → Q v H'
theorem sp_next_pair_len {K : PySem.W.Frag} {vs : List V} {H : Hp} {Q : VK} {E : XK} (h : sp_next_pair K vs H Q E) : vs.length = 5 := by
  obtain ⟨_, _, _, _, _, _, _, _, _, rfl, _⟩ := h
  rfl
section
variable {P : Program} {w : World} {K : PySem.W.Frag} {mg : Str → Option Value} {base : Heap}
theorem ok_next_pair (T : Txt K mg) : Pk.Ok P w K mg base CX0 1 (He.fAd K ("next_pair", none)) ["old", "new", "rows", "left", "right"] (sp_next_pair K) := by
  obtain ⟨fd, F⟩ := T.F_next_pair
  refine ⟨fd, F.ok sc_next_pair ?len ?body, F.bindsN fun _ _ _ _ _ _ us hl => match us, hl with | [_, _, _, _, _], _ => rfl⟩
  case len => exact fun vs H Q E h => sp_next_pair_len h
  intro cdv A outer s H vs Q E hr h
  have hu := hu_of hr
  have hu64 := hr.units
  have hu65 := Pk.units65 hr
  refine ⟨_, PSs.nox ((pss_cons (ps_for PassesOwn.never rfl (pi_range2 rfl T.b_range (pa_cons (pv 3) (pa_cons (pe_callB (Pk.lenK K) (by rfl) T.b_len Pk.bt_len (pa_cons (pv 0) pa_nil)) pa_nil))) (pg_name (i := 5) sc_next_pair.nd rfl (Or.inl rfl)) (pss_one (ps_for PassesOwn.never rfl (pi_range2 rfl T.b_range (pa_cons (pv 4) (pa_cons (pe_callB (Pk.lenK K) (by rfl) T.b_len Pk.bt_len (pa_cons (pv 1) pa_nil)) pa_nil))) (pg_name (i := 6) sc_next_pair.nd rfl (Or.inl rfl)) (pss_one (ps_if (PW.pt (pw_and (pt_cmpR op_eq (pe_ix (Pk.ixL K) (pv 0) (pv 5) (fun _ _ => rfl)) (pe_ix (Pk.ixL K) (pv 1) (pv 6) (fun _ _ => rfl)) (nomark _)) (pw_and1 (pt_cmpR op_eq (pe_op op_add pe_int (pe_ix (Pk.ixL K) (pe_ix (Pk.ixL K) (pv 2) (pe_op op_add (pv 5) pe_int) (fun _ _ => rfl)) (pe_op op_add (pv 6) pe_int) (fun _ _ => rfl))) (pe_ix (Pk.ixL K) (pe_ix (Pk.ixL K) (pv 2) (pv 3) (fun _ _ => rfl)) (pv 4) (fun _ _ => rfl)) (nomark _))))) (pss_one (ps_ret (pe_tup (pa_cons (pv 5) (pa_cons (pv 6) pa_nil))))) pss_nil)))))
      (pss_one (ps_ret pe_non)))), ?_⟩
  obtain ⟨a, b, r, old, new, rs, l, rr, f, rfl, hA, hB, lA, lB, tb, hf, hl, hr2, qq⟩ := h
  wtm_at "go"
  rw [List.length_map]
  refine ⟨⟨by omega, by omega, by omega, by omega⟩, for_range (lo := (l : Int)) (n := ((old.length : Int) - (l : Int)).toNat) (fun t σ H' => H' = H ∧ (∃ vi vj : Option V, σ = [some (.ref a), some (.ref b), some (.ref r), some (.int (l : Int)), some (.int (rr : Int)), vi, vj]) ∧ ∀ i j, i < l + t → ¬ Pk.Hit old new l rr i j) ?_ ?_ ?_⟩
  · exact ⟨rfl, ⟨none, none, rfl⟩, fun i j hi q => absurd q.1 (by omega)⟩
  · rintro t σ H' ht ⟨rfl, ⟨vi, vj, rfl⟩, no⟩
    wtm_at "go"
    rw [List.length_map]
    refine ⟨⟨by omega, by omega, by omega, by omega⟩, for_range (lo := (rr : Int)) (n := ((new.length : Int) - (rr : Int)).toNat) (fun u σ H2 => H2 = H' ∧ (∃ vj : Option V, σ = [some (.ref a), some (.ref b), some (.ref r), some (.int (l : Int)), some (.int (rr : Int)), some (.int ((l : Int) + (t : Int))), vj]) ∧ ∀ j, j < rr + u → ¬ Pk.Hit old new l rr (l + t) j) ?_ ?_ ?_⟩
    · exact ⟨rfl, ⟨vj, rfl⟩, fun j hj q => absurd q.2.1 (by omega)⟩
    · rintro u σ H2 hu2 ⟨rfl, ⟨vj, rfl⟩, no2⟩
      have h1 : l + t < old.length := by omega
      have h2 : rr + u < new.length := by omega
      have e1 : (l : Int) + (t : Int) = ((l + t : Nat) : Int) := by omega
      have e2 : (rr : Int) + (u : Int) = ((rr + u : Nat) : Int) := by omega
      rw [e1, e2]
      have hit : ∀ i j, Pk.Hit old new l rr i j → ¬ (l + t < i ∨ (l + t = i ∧ rr + u ≤ j)) → False := by
        intro i j q hn
        by_cases c : i < l + t
        · exact no i j c q
        · have ei : i = l + t := by omega
          subst ei
          exact no2 j (by omega) q
      wtm_at "go"
      refine Pk.rd_ixL hA (Pk.at_mapN h1) ?_
      wtm_at "go"
      refine Pk.rd_ixL hB (Pk.at_mapN h2) ?_
      wtm_at "go"
      refine Pk.rd_dec (fun c => ?_) (fun c => ?_)
      · obtain ⟨a1, x1, y1, z1⟩ := tb.get1 (i := l + t + 1) (by omega)
        obtain ⟨a2, x2, y2, z2⟩ := tb.get1 (i := l) hl
        have e3 : ((l + t : Nat) : Int) + 1 = ((l + t + 1 : Nat) : Int) := by omega
        have e4 : ((rr + u : Nat) : Int) + 1 = ((rr + u + 1 : Nat) : Int) := by omega
        wtm_at "go"
        rw [e3]
        refine Pk.rd_ixL (SqL.of tb.top) x1 ?_
        wtm_at "go"
        rw [e4]
        refine Pk.rd_ixL (SqL.of z1) (Pk.Tab.get2 (by omega)) ?_
        wtm_at "go"
        refine Pk.rd_ixL (SqL.of tb.top) x2 ?_
        wtm_at "go"
        refine Pk.rd_ixL (SqL.of z2) (Pk.Tab.get2 (by omega)) ?_
        wtm_at "go"
        rw [hf _ _ (by omega) (by omega), hf _ _ hl hr2]
        have hc : old[l + t]? = new[rr + u]? := by rw [List.getElem?_eq_getElem h1, List.getElem?_eq_getElem h2, c]
        refine Pk.rd_dec (fun c2 => ?_) (fun c2 => ?_)
        · wtm_at "go"
          refine ⟨by show 2 ≤ sizeLine; decide, fun p hp => ?_⟩
          wtm_at "go"
          refine qq (some (l + t, rr + u)) _ _ ⟨⟨by omega, by omega, h1, h2, hc, (by show 1 + Pk.Lc old new (l + t + 1) (rr + u + 1) = _; omega)⟩, fun i j q => ?_⟩ (Pk.Ex.new hp) ⟨p, rfl, upd_same⟩
          refine Classical.byContradiction fun w => ?_
          exact hit i j q w
        · wtm_at "go"
          refine ⟨rfl, ⟨_, rfl⟩, fun j hj q => ?_⟩
          by_cases d : j < rr + u
          · exact no2 j d q
          · have ej : j = rr + u := by omega
            subst ej
            exact c2 (by have := q.2.2.2.2.2; omega)
      · wtm_at "go"
        refine ⟨rfl, ⟨_, rfl⟩, fun j hj q => ?_⟩
        by_cases d : j < rr + u
        · exact no2 j d q
        · have ej : j = rr + u := by omega
          subst ej
          have z := q.2.2.2.2.1
          rw [List.getElem?_eq_getElem h1, List.getElem?_eq_getElem h2] at z
          exact c (Option.some.inj z)
    · rintro σ H2 ⟨rfl, ⟨vj, rfl⟩, no2⟩
      wtm_at "go"
      refine ⟨rfl, ⟨_, _, rfl⟩, fun i j hi q => ?_⟩
      by_cases c : i < l + t
      · exact no i j c q
      · have ei : i = l + t := by omega
        subst ei
        exact no2 j (by have := q.2.2.2.1; omega) q
  · rintro σ H' ⟨rfl, ⟨vi, vj, rfl⟩, no⟩
    wtm_at "go"
    exact qq none _ _ (fun i j q => no i j (by have := q.2.2.1; omega) q) (Pk.Ex.refl _) rfl
end
end PkC
namespace PkC
open PySem PySem.Spec PyProof.Rows L2
theorem sc_kept : FnScope ["old", "new", "rows", "found", "pair"] ["old", "new"] (defScope s_kept) := ⟨rfl, rfl, rfl, by decide +kernel, rfl, by decide +kernel, by decide +kernel⟩
/-- the greedy pairs, a new list of tuples -/
def sp_kept (K : PySem.W.Frag) : Sp := fun vs H Q _ => ∃ (a b : Addr) (old new : List Str), vs = [.ref a, .ref b] ∧
  SqL K H a (old.map V.str) ∧ SqL K H b (new.map V.str) ∧ old.length ≤ 1000 ∧ new.length ≤ 1000 ∧
  ∀ (p : Addr) (ts : List Addr) (fs : List (Nat × Nat)) (H' : Hp), H p = none → Pk.Ex H H' → Pk.Kept old new 0 0 fs → H' p = some (.lst (ts.map V.ref)) → Pk.Prs H' ts fs → Q (.ref p) H'
theorem sp_kept_len {K : PySem.W.Frag} {vs : List V} {H : Hp} {Q : VK} {E : XK} (h : sp_kept K vs H Q E) : vs.length = 2 := by
  obtain ⟨_, _, _, _, rfl, _⟩ := h
  rfl
/-- between two turns of the while -/
structure KeptW (H1 : Hp) (a b r pf : Addr) (old new : List Str) (m : Nat) (σ : L2.St) (H' : Hp) : Prop where
  ex : Pk.Ex H1 H'
  st : ∃ (l rr : Nat) (o : Option (Nat × Nat)) (fs : List (Nat × Nat)) (ts : List Addr) (v : V), m = Pk.Lc old new l rr ∧ Pk.IsNext old new l rr o ∧ (∀ t, Pk.Kept old new l rr t → Pk.Kept old new 0 0 (fs ++ t)) ∧
    fs.length + Pk.Lc old new l rr ≤ 1000 ∧ H' pf = some (.lst (ts.map V.ref)) ∧ Pk.Prs H' ts fs ∧ Pk.PairV H' v o ∧ σ = [some (.ref a), some (.ref b), some (.ref r), some (.ref pf), some v]
section
variable {P : Program} {w : World} {K : PySem.W.Frag} {mg : Str → Option Value} {base : Heap}
theorem ok_kept (T : Txt K mg) : Pk.Ok P w K mg base CX0 2 (He.fAd K ("kept", none)) ["old", "new"] (sp_kept K) := by
  obtain ⟨fd, F⟩ := T.F_kept
  obtain ⟨fd_lengths, G_lengths, B_lengths⟩ := (ok_lengths (P := P) (w := w) (base := base) T).ex
  obtain ⟨fd_next_pair, G_next_pair, B_next_pair⟩ := (ok_next_pair (P := P) (w := w) (base := base) T).ex
  refine ⟨fd, F.ok sc_kept ?len ?body, F.bindsN fun _ _ _ _ _ _ us hl => match us, hl with | [_, _], _ => rfl⟩
  case len => exact fun vs H Q E h => sp_kept_len h
  intro cdv A outer s H vs Q E hr h
  have hu := hu_of hr
  have hu64 := hr.units
  have hu65 := Pk.units65 hr
  refine ⟨_, PSs.nox ((pss_cons (ps_set (i := 2) sc_kept.nd rfl (Or.inl rfl) (pe_call G_lengths (hr.mono (by decide)) rfl T.g_lengths T.k_lengths B_lengths .nil pass0 (pa_cons (pv 0) (pa_cons (pv 1) pa_nil))))
      (pss_cons (ps_set (i := 3) sc_kept.nd rfl (Or.inl rfl) (pe_lst pa_nil))
      (pss_cons (ps_set (i := 4) sc_kept.nd rfl (Or.inl rfl) (pe_call G_next_pair (hr.mono (by decide)) rfl T.g_next_pair T.k_next_pair B_next_pair .nil pass0 (pa_cons (pv 0) (pa_cons (pv 1) (pa_cons (pv 2) (pa_cons pe_int (pa_cons pe_int pa_nil)))))))
      (pss_cons (ps_while PassesOwn.never (pt_cmpR op_notN (pv 4) pe_non (nomark _)) (pss_cons (ps_expr (pe_bm PySem.F.plainAttrs_list PySem.F.slot_list_append PySem.F.type_list_append mt_append (pv 3) (pa_cons (pv 4) pa_nil)))
      (pss_one (ps_set (i := 4) sc_kept.nd rfl (Or.inl rfl) (pe_call G_next_pair (hr.mono (by decide)) rfl T.g_next_pair T.k_next_pair B_next_pair .nil pass0 (pa_cons (pv 0) (pa_cons (pv 1) (pa_cons (pv 2) (pa_cons (pe_op op_add (pe_ix (Pk.ixT K) (pv 4) pe_int (fun _ _ => rfl)) pe_int) (pa_cons (pe_op op_add (pe_ix (Pk.ixT K) (pv 4) pe_int (fun _ _ => rfl)) pe_int) pa_nil))))))))))
      (pss_one (ps_ret (pv 3)))))))), ?_⟩
  obtain ⟨a, b, old, new, rfl, hA, hB, lA, lB, q⟩ := h
  wtm_at "go"
  refine ⟨a, b, old, new, rfl, hA, hB, lA, lB, fun r rs f H1 e1 tb hf => ?_⟩
  wtm_at "go"
  refine ⟨by show 0 ≤ sizeLine; decide, fun pf hpf => ?_⟩
  have e2 : Pk.Ex H1 (upd H1 pf (.lst [])) := Pk.Ex.new hpf
  have tb2 := tb.ex e2
  have hA2 := e2.seqL (e1.seqL hA)
  have hB2 := e2.seqL (e1.seqL hB)
  have lc : Pk.Lc old new 0 0 ≤ 1000 := by
    obtain ⟨s, s1, s2, s3⟩ := Pk.lcs_ex (old.drop 0) (new.drop 0)
    have z := s1.length_le
    unfold Pk.Lc
    rw [← s3]
    rw [List.length_drop] at z
    omega
  wtm_at "go"
  refine ⟨a, b, r, old, new, rs, 0, 0, f, rfl, hA2, hB2, lA, lB, tb2, hf, Nat.zero_le _, Nat.zero_le _, fun o v H2 n0 e3 pv => ?_⟩
  wtm_at "go"
  refine ⟨KeptW H1 a b r pf old new, ⟨_, ⟨e2.trans e3, 0, 0, o, [], [], v, rfl, n0, fun t ht => ht, by simpa using lc, e3 _ _ upd_same, Pk.Prs.nil, pv, rfl⟩⟩, ?_⟩
  rintro m σ H3 ⟨ex, l, rr, o, fs, ts, v, rfl, nx, kp, sz, hpf3, prs, pv, rfl⟩
  wtm_at "go"
  cases o with
  | none =>
    have ev : v = .non := pv
    subst ev
    refine Pk.rd_nyes rfl ?_
    wtm_at "go"
    have z := kp [] (.nil nx)
    rw [List.append_nil] at z
    exact q pf ts fs H3 (e1.back hpf) (e1.trans ex) z hpf3 prs
  | some ij =>
    obtain ⟨i, j⟩ := ij
    obtain ⟨t, rfl, ht⟩ := pv
    refine Pk.rd_nno (by intro z; cases z) ?_
    have hit := nx.1
    have nxe := nx.some_eq
    refine ⟨fun σ' H' => ∃ m', m' < Pk.Lc old new l rr ∧ KeptW H1 a b r pf old new m' σ' H', fun _ _ h => h, ?_⟩
    wtm_at "go"
    refine Pk.rd_app hpf3 (by rw [List.length_map, prs.len]; exact Pk.line_lt (by omega)) ?_
    have e4 : Pk.Ex H1 (upd H3 pf (.lst (ts.map V.ref ++ [.ref t]))) := ex.mut hpf
    have ht4 : upd H3 pf (.lst (ts.map V.ref ++ [.ref t])) t = some (.tup [.int (i : Int), .int (j : Int)]) := by
      rw [upd_ne (ne_of ht hpf3 (by intro z; cases z))]
      exact ht
    have prs4 := prs.upd (o := .lst (ts.map V.ref ++ [.ref t])) hpf3
    have hpf4 : upd H3 pf (.lst (ts.map V.ref ++ [.ref t])) pf = some (.lst ((ts ++ [t]).map V.ref)) := by
      rw [upd_same, List.map_append]
      rfl
    generalize upd H3 pf (.lst (ts.map V.ref ++ [.ref t])) = H4 at e4 ht4 prs4 hpf4 ⊢
    wtm_at "go"
    refine Pk.rd_ixT (SqT.of ht4) (Pk.at_nat (k := 0) rfl) ?_
    wtm_at "go"
    refine Pk.rd_ixT (SqT.of ht4) (Pk.at_nat (k := 1) rfl) ?_
    wtm_at "go"
    have hi := hit.2.2.1
    have hj := hit.2.2.2.1
    simp only at hi hj
    refine ⟨a, b, r, old, new, rs, i + 1, j + 1, f, rfl, e4.seqL (e1.seqL hA), e4.seqL (e1.seqL hB), lA, lB, tb.ex e4, hf, hi, hj, fun o v H5 n5 e5 pv5 => ?_⟩
    wtm_at "go"
    refine ⟨_, ?_, ⟨e4.trans e5, i + 1, j + 1, o, fs ++ [(i, j)], ts ++ [t], v, rfl, n5, fun t' ht' => ?_, ?_, e5 _ _ hpf4, (prs4.snoc ht4).ex e5, pv5, rfl⟩⟩
    · omega
    · rw [List.append_assoc]
      exact kp _ (.cons nx ht')
    · rw [List.length_append]
      simp only [List.length_cons, List.length_nil]
      omega
end
end PkC
namespace PkC
open PySem PySem.Spec PyProof.Rows L2
theorem sc_Patch_init__ : FnScope ["self", "name", "file", "puts", "cuts", "other", "needs"] ["self", "name", "file", "puts", "cuts", "other", "needs"] (defScope s_Patch_init__) := ⟨rfl, rfl, rfl, by decide +kernel, rfl, by decide +kernel, by decide +kernel⟩
/-- the six fields -/
def sp_Patch_init__ (K : PySem.W.Frag) : Sp := fun vs H Q _ => ∃ (x dx : Addr) (n f p c o d : V), vs = [.ref x, n, f, p, c, o, d] ∧ H x = some (.ins (He.ga K "Patch") dx []) ∧ Q .non (upd H x (.ins (He.ga K "Patch") dx [("name", n), ("file", f), ("puts", p), ("cuts", c), ("other", o), ("needs", d)]))
theorem sp_Patch_init___len {K : PySem.W.Frag} {vs : List V} {H : Hp} {Q : VK} {E : XK} (h : sp_Patch_init__ K vs H Q E) : vs.length = 7 := by
  obtain ⟨_, _, _, _, _, _, _, _, rfl, _⟩ := h
  rfl
section
variable {P : Program} {w : World} {K : PySem.W.Frag} {mg : Str → Option Value} {base : Heap}
theorem ok_Patch_init__ (T : Txt K mg) : Pk.Ok P w K mg base CX0 1 (He.fAd K ("Patch", some "__init__")) ["self", "name", "file", "puts", "cuts", "other", "needs"] (sp_Patch_init__ K) := by
  obtain ⟨fd, F⟩ := T.F_Patch_init__
  refine ⟨fd, F.ok sc_Patch_init__ ?len ?body, F.bindsN fun _ _ _ _ _ _ us hl => match us, hl with | [_, _, _, _, _, _, _], _ => rfl⟩
  case len => exact fun vs H Q E h => sp_Patch_init___len h
  intro cdv A outer s H vs Q E hr h
  have hu := hu_of hr
  have hu64 := hr.units
  have hu65 := Pk.units65 hr
  refine ⟨_, PSs.nox ((pss_cons (ps_fld (pv 0) (pv 1) rfl)
      (pss_cons (ps_fld (pv 0) (pv 2) rfl)
      (pss_cons (ps_fld (pv 0) (pv 3) rfl)
      (pss_cons (ps_fld (pv 0) (pv 4) rfl)
      (pss_cons (ps_fld (pv 0) (pv 5) rfl)
      (pss_one (ps_fld (pv 0) (pv 6) rfl)))))))), ?_⟩

  obtain ⟨x, dx, n, f, p, c, o, d, rfl, hi, q⟩ := h
  wtm_at "go"
  refine Pk.rd_sfldA hi T.c_Patch T.n_Patch_name (by show 0 < 1000; decide) ?_
  wtm_at "go"
  refine Pk.rd_sfldA upd_same T.c_Patch T.n_Patch_file (by show 1 < 1000; decide) ?_
  rw [upd_upd]
  wtm_at "go"
  refine Pk.rd_sfldA upd_same T.c_Patch T.n_Patch_puts (by show 2 < 1000; decide) ?_
  rw [upd_upd]
  wtm_at "go"
  refine Pk.rd_sfldA upd_same T.c_Patch T.n_Patch_cuts (by show 3 < 1000; decide) ?_
  rw [upd_upd]
  wtm_at "go"
  refine Pk.rd_sfldA upd_same T.c_Patch T.n_Patch_other (by show 4 < 1000; decide) ?_
  rw [upd_upd]
  wtm_at "go"
  refine Pk.rd_sfldA upd_same T.c_Patch T.n_Patch_needs (by show 5 < 1000; decide) ?_
  rw [upd_upd]
  wtm_at "go"
  exact q
end
end PkC
namespace PkC
open PySem PySem.Spec PyProof.Rows L2
theorem sc_live_of : FnScope ["patches", "dead", "patch"] ["patches"] (defScope s_live_of) := ⟨rfl, rfl, rfl, by decide +kernel, rfl, by decide +kernel, by decide +kernel⟩
/-- all of them -/
def sp_live_of (K : PySem.W.Frag) : Sp := fun vs H Q _ => ∃ (a : Addr) (L : List Pk.PR), vs = [.ref a] ∧ SqL K H a (L.map fun r => V.ref r.ad) ∧ (∀ r ∈ L, Pk.PatAt K H r) ∧ L.length ≤ 20 ∧ ∀ (p : Addr) (H' : Hp), Pk.Ex H H' → H' p = some (.lst (L.map fun r => V.ref r.ad)) → Q (.ref p) H'
theorem sp_live_of_len {K : PySem.W.Frag} {vs : List V} {H : Hp} {Q : VK} {E : XK} (h : sp_live_of K vs H Q E) : vs.length = 1 := by
  obtain ⟨_, _, rfl, _⟩ := h
  rfl
section
variable {P : Program} {w : World} {K : PySem.W.Frag} {mg : Str → Option Value} {base : Heap}
theorem ok_live_of (T : Txt K mg) : Pk.Ok P w K mg base CX0 1 (He.fAd K ("live_of", none)) ["patches"] (sp_live_of K) := by
  obtain ⟨fd, F⟩ := T.F_live_of
  refine ⟨fd, F.ok sc_live_of ?len ?body, F.bindsN fun _ _ _ _ _ _ us hl => match us, hl with | [_], _ => rfl⟩
  case len => exact fun vs H Q E h => sp_live_of_len h
  intro cdv A outer s H vs Q E hr h
  have hu := hu_of hr
  have hu64 := hr.units
  have hu65 := Pk.units65 hr
  refine ⟨_, PSs.nox ((pss_cons (ps_set (i := 1) sc_live_of.nd rfl (Or.inr rfl) pe_dnewK)
      (pss_cons (ps_for PassesOwn.never rfl (pi_reversed rfl T.b_reversed (pa_cons (pv 0) pa_nil)) (pg_name (i := 2) sc_live_of.nd rfl (Or.inl rfl)) (pss_one (ps_if (PW.pt (pw_and (pt_cmpR op_notN (Pk.fldK K (pv 2) rfl) pe_non (nomark _)) (pw_and1 (pt_cmp (pc_dnotin hu (Pk.fldK K (pv 2) rfl) (pv 1)))))) Pk.pss_never pss_nil)))
      (pss_one (ps_ret (pe_lc (own := [("patch", 2)]) (g := gName 2) rfl sc_live_of.nd (Pk.piL K (pv 0)) (blkOk_by (own := [("patch", 2)]) (N := ["patches", "dead", "patch"]) (sc := defScope s_live_of) (by decide +kernel)) (fun _ _ _ _ _ => (pg_name (i := 2) sc_live_of.nd rfl (Or.inl rfl))) (fun _ _ _ _ _ => (pts_one (pt_cmp (pc_dnotin hu (Pk.fldK K (pv 2) rfl) (pv 1))))) (fun _ _ _ _ _ => (pv 2)))))))), ?_⟩

  obtain ⟨a, L, rfl, hA, hP, hL, q⟩ := h
  wtm_at "go"
  intro p0 n_p0
  generalize q_p0 : upd _ p0 _ = H0
  have x_H0 := Pk.lay_ex n_p0 q_p0
  have s_p0 := Pk.lay_at q_p0
  clear q_p0
  wtm_at "go"
  have hA0 := x_H0.seqL hA
  refine ⟨a, _, rfl, hA0, ?_⟩
  have en : (L.map fun r => V.ref r.ad).length = L.length := List.length_map _
  rw [en]
  refine Pk.for_inv L.length (fun i σ' H' => H' = H0 ∧ ∃ v, σ' = [some (.ref a), some (.ref p0), v]) ⟨rfl, _, rfl⟩ ?_ ?_
  · rintro i σ' H' hi ⟨rfl, v, rfl⟩
    have hi2 : L.length - 1 - i < L.length := by omega
    obtain ⟨r, er⟩ : ∃ r, L[L.length - 1 - i]? = some r := ⟨_, List.getElem?_eq_getElem hi2⟩
    refine Pk.turnV hi hA0 (x := .ref r.ad) (by rw [List.getElem?_map, er]; rfl) ?_
    obtain ⟨dx, nd, kvs, o1, _, _⟩ := ((hP r (List.mem_of_getElem? er)).ex x_H0).obj
    wtm_at "go"
    refine Pk.rd_fldA o1 T.c_Patch T.n_Patch_other rfl ?_
    wtm_at "go"
    refine Pk.rd_nyes rfl ?_
    wtm_at "go"
    exact ⟨rfl, _, rfl⟩
  · rintro σ' H' ⟨rfl, v, rfl⟩
    refine Pk.endV (Nat.le_refl _) ?_
    wtm_at "go"
    refine ⟨⟨_, hA0⟩, Pk.lcF L (fun r => V.ref r.ad) (fun _ => true) (fun r => V.ref r.ad) hA0 (by omega) (fun _ => rfl) (fun r hr H' QT e qt => ?_) (fun r hr _ H' Q' e q' => ?_) (fun p hp => ?_)⟩
    · obtain ⟨dx, nd, kvs, o1, _, _⟩ := ((hP r hr).ex (x_H0.trans e)).obj
      wtm_at "go"
      refine Pk.rd_fldA o1 T.c_Patch T.n_Patch_name rfl ?_
      wtm_at "go"
      refine ⟨p0, _, rfl, DGet.k (k := Sum.inr r.nm) (e _ _ s_p0), ?_⟩
      wtm_at "go"
      exact qt
    · wtm_at "go"
      exact q'
    · have ef : L.filter (fun _ => true) = L := by simp
      rw [ef]
      exact q p _ (x_H0.trans (Pk.Ex.new hp)) upd_same
end
end PkC
namespace PkC
open PySem PySem.Spec PyProof.Rows L2
theorem sc_lines_of : FnScope ["patches", "file", "found", "patch", "number", "put"] ["patches", "file"] (defScope s_lines_of) := ⟨rfl, rfl, rfl, by decide +kernel, rfl, by decide +kernel, by decide +kernel⟩
/-- the lines of the file -/
def sp_lines_of (K : PySem.W.Frag) : Sp := fun vs H Q _ => ∃ (a : Addr) (L : List Pk.PR) (f : Str), vs = [.ref a, .str f] ∧ SqL K H a (L.map fun r => V.ref r.ad) ∧ (∀ r ∈ L, Pk.PatAt K H r) ∧ L.length ≤ 20 ∧ ∀ (p : Addr) (ts : List Addr) (H' : Hp), Pk.Ex H H' → H' p = some (.lst (ts.map V.ref)) → Pk.AllAt Pk.LineAt H' ts (Pk.ofF f L) → Q (.ref p) H'
theorem sp_lines_of_len {K : PySem.W.Frag} {vs : List V} {H : Hp} {Q : VK} {E : XK} (h : sp_lines_of K vs H Q E) : vs.length = 2 := by
  obtain ⟨_, _, _, rfl, _⟩ := h
  rfl
section
variable {P : Program} {w : World} {K : PySem.W.Frag} {mg : Str → Option Value} {base : Heap}
theorem ok_lines_of (T : Txt K mg) : Pk.Ok P w K mg base CX0 1 (He.fAd K ("lines_of", none)) ["patches", "file"] (sp_lines_of K) := by
  obtain ⟨fd, F⟩ := T.F_lines_of
  refine ⟨fd, F.ok sc_lines_of ?len ?body, F.bindsN fun _ _ _ _ _ _ us hl => match us, hl with | [_, _], _ => rfl⟩
  case len => exact fun vs H Q E h => sp_lines_of_len h
  intro cdv A outer s H vs Q E hr h
  have hu := hu_of hr
  have hu64 := hr.units
  have hu65 := Pk.units65 hr
  refine ⟨_, PSs.nox ((pss_cons (ps_set (i := 2) sc_lines_of.nd rfl (Or.inl rfl) (pe_lst pa_nil))
      (pss_cons (ps_for PassesOwn.never rfl (Pk.piL K (pv 0)) (pg_name (i := 3) sc_lines_of.nd rfl (Or.inl rfl)) (pss_one (ps_if (pt_cmpR op_eq (Pk.fldK K (pv 3) rfl) (pv 1) (nomark _)) (pss_one (ps_for PassesOwn.never rfl (pi_enum (by rfl) T.b_enumerate (pa_cons (Pk.fldK K (pv 3) rfl) pa_nil)) (pg_tup rfl (pgs_cons (pg_name (i := 4) sc_lines_of.nd rfl (Or.inl rfl)) (pgs_cons (pg_name (i := 5) sc_lines_of.nd rfl (Or.inl rfl)) pgs_nil))) (pss_one (ps_expr (pe_bm PySem.F.plainAttrs_list PySem.F.slot_list_append PySem.F.type_list_append mt_append (pv 2) (pa_cons (pe_tup (pa_cons (pe_tup (pa_cons (Pk.fldK K (pv 3) rfl) (pa_cons (pv 4) pa_nil))) (pa_cons (pe_ix (Pk.ixT K) (pv 5) pe_int (fun _ _ => rfl)) (pa_cons (pe_ix (Pk.ixT K) (pv 5) pe_int (fun _ _ => rfl)) (pa_cons (pe_ix (Pk.ixT K) (pv 5) pe_int (fun _ _ => rfl)) pa_nil))))) pa_nil)))))) pss_nil)))
      (pss_one (ps_ret (pv 2)))))), ?_⟩

  obtain ⟨a, L, f, rfl, hA, hP, hL, q⟩ := h
  wtm_at "go"
  refine ⟨Nat.le_of_ble_eq_true rfl, fun p0 n_p0 => ?_⟩
  generalize q_p0 : upd _ p0 _ = H0
  have x_H0 := Pk.lay_ex n_p0 q_p0
  have s_p0 := Pk.lay_at q_p0
  clear q_p0
  wtm_at "go"
  refine ⟨⟨_, x_H0.seqL hA⟩, for_list (K := K) (a := a) (xs := L.map fun r => V.ref r.ad) (fun i σ H' => Pk.Ex H H' ∧ ∃ (ts : List Addr) (v3 v4 v5 : Option V), σ = [some (.ref a), some (.str f), some (.ref p0), v3, v4, v5] ∧ H' p0 = some (.lst (ts.map V.ref)) ∧ Pk.AllAt Pk.LineAt H' ts (Pk.ofF f (L.take i)) ∧ ts.length ≤ i) ?_ (fun i σ H' _ z => z.1.seqL hA) ?_ ?_⟩
  · exact ⟨x_H0, [], _, _, _, rfl, s_p0, trivial, Nat.le_refl _⟩
  · rintro i x σ H1 hx ⟨e1, ts, v3, v4, v5, rfl, h0, al, lt⟩
    rw [List.getElem?_map] at hx
    cases e : L[i]? with
    | none =>
      rw [e] at hx
      cases hx
    | some r =>
      rw [e] at hx
      cases hx
      have hr := List.mem_of_getElem? e
      have hi : i < L.length := (List.getElem?_eq_some_iff.mp e).1
      have P := (hP r hr).ex e1
      obtain ⟨dx, nd, kvs, o1, o2, o3⟩ := P.obj
      obtain ⟨pt, u, u1, u2, u3⟩ := P.puts
      have tk : L.take (i + 1) = L.take i ++ [r] := by
        rw [List.take_succ, e]
        rfl
      wtm_at "go"
      refine Pk.rd_fldA o1 T.c_Patch T.n_Patch_file rfl ?_
      wtm_at "go"
      refine Pk.rd_dec (fun c => ?_) (fun c => ?_)
      · wtm_at "go"
        refine Pk.rd_fldA o1 T.c_Patch T.n_Patch_puts rfl ?_
        wtm_at "go"
        refine ⟨r.pl, _, rfl, SqL.of u1, Pk.for_unr 1 (Pk.w_go (Pk.turnE (SqL.of u1) (x := .ref pt) rfl fun t1 n1 => ?_))⟩
        generalize q_1 : upd H1 t1 _ = H2
        have x_H2 := Pk.lay_ex n1 q_1
        have s_t1 := Pk.lay_at q_1
        clear q_1
        refine ⟨t1, _, rfl, SqT.of s_t1, rfl, _, _, rfl, ?_⟩
        wtm_at "go"
        refine ⟨_, _, rfl, ?_⟩
        wtm_at "go"
        refine ⟨rfl, ?_⟩
        wtm_at "go"
        have o12 := x_H2 _ _ o1
        have pt2 := x_H2 _ _ u2
        refine Pk.rd_fldA o12 T.c_Patch T.n_Patch_name rfl ?_
        wtm_at "go"
        refine ⟨Nat.le_of_ble_eq_true rfl, fun k3 n_k3 => ?_⟩
        generalize q_k3 : upd _ k3 _ = H3
        have x_H3 := Pk.lay_ex n_k3 q_k3
        have s_k3 := Pk.lay_at q_k3
        clear q_k3
        wtm_at "go"
        have pt3 := SqT.of (K := K) (x_H3 _ _ pt2)
        refine Pk.rd_ixT pt3 (Pk.at_nat (k := 0) rfl) ?_
        wtm_at "go"
        refine Pk.rd_ixT pt3 (Pk.at_nat (k := 1) rfl) ?_
        wtm_at "go"
        refine Pk.rd_ixT pt3 (Pk.at_nat (k := 2) rfl) ?_
        wtm_at "go"
        refine ⟨Nat.le_of_ble_eq_true rfl, fun t4 n_t4 => ?_⟩
        generalize q_t4 : upd _ t4 _ = H4
        have x_H4 := Pk.lay_ex n_t4 q_t4
        have s_t4 := Pk.lay_at q_t4
        clear q_t4
        wtm_at "go"
        have x14 := x_H2.trans (x_H3.trans x_H4)
        refine Pk.rd_app (x14 _ _ h0) (Pk.line_lt (by rw [List.length_map]; omega)) ?_
        generalize q_H5 : upd _ p0 _ = H5
        have s_H5 := Pk.lay_at q_H5
        have m_H5 := Pk.lay_mut q_H5
        clear q_H5
        wtm_at "go"
        have t0 : H p0 = none := n_p0
        have e5 : Pk.Ex H H5 := (e1.trans x14).mut2 t0 m_H5
        have mv : ∀ {b : Addr} {o : HO}, H4 b = some o → (∀ z, o ≠ .lst z) → H5 b = some o := by
          intro b o hb ho
          refine m_H5 b o ?_ hb
          rintro rfl
          rw [x14 _ _ h0] at hb
          exact ho _ (Option.some.inj hb).symm
        have moveL : ∀ t r, Pk.LineAt H1 t r → Pk.LineAt H5 t r := by
          rintro t r ⟨k, u', w1, w2, w3⟩
          refine ⟨k, u', mv (x14 _ _ w1) (fun z w => nomatch w), mv (x14 _ _ w2) (fun z w => nomatch w), ?_⟩
          cases hb : r.up with
          | false =>
            rw [hb] at w3
            exact w3
          | true =>
            rw [hb] at w3
            obtain ⟨t', w4, w5⟩ := w3
            exact ⟨t', w4, mv (x14 _ _ w5) (fun z w => nomatch w)⟩
        have newL : Pk.LineAt H5 t4 r := by
          refine ⟨k3, u, mv s_t4 (fun z w => nomatch w), mv (x_H4 _ _ s_k3) (fun z w => nomatch w), ?_⟩
          cases hb : r.up with
          | false =>
            rw [hb] at u3
            exact u3
          | true =>
            rw [hb] at u3
            obtain ⟨t', w4, w5⟩ := u3
            exact ⟨t', w4, mv (x14 _ _ w5) (fun z w => nomatch w)⟩
        have pl5 : H5 r.pl = some (.lst [.ref pt]) := by
          have z := (hP r hr).puts
          obtain ⟨pt', u', w1, _, _⟩ := z
          have z1 := e1 _ _ w1
          rw [u1] at z1
          cases z1
          exact e5 _ _ w1
        refine Pk.w_end (Pk.endE (SqL.of pl5) (Nat.le_refl _) ?_)
        wtm_at "go"
        refine ⟨e5, ts ++ [t4], _, _, _, rfl, by rw [s_H5, List.map_append]; rfl, ?_, by rw [List.length_append]; show ts.length + 1 ≤ i + 1; omega⟩
        rw [tk]
        unfold Pk.ofF
        rw [List.filter_append]
        have e2 : [r].filter (fun r => decide (r.fl = f)) = [r] := by simp [c]
        rw [e2]
        exact Pk.AllAt.snoc newL (al.imp moveL)
      · wtm_at "go"
        refine ⟨e1, ts, _, _, _, rfl, h0, ?_, by omega⟩
        rw [tk]
        unfold Pk.ofF
        rw [List.filter_append]
        have e2 : [r].filter (fun r => decide (r.fl = f)) = [] := by simp [c]
        rw [e2, List.append_nil]
        exact al
  · rintro σ H1 ⟨e1, ts, v3, v4, v5, rfl, h0, al, lt⟩
    rw [List.length_map, List.take_length] at al
    wtm_at "go"
    exact q p0 ts H1 e1 h0 al
end
end PkC
namespace PkC
open PySem PySem.Spec PyProof.Rows L2
theorem sc_aheads : FnScope ["lines", "found", "line", "mine", "other"] ["lines"] (defScope s_aheads) := ⟨rfl, rfl, rfl, by decide +kernel, rfl, by decide +kernel, by decide +kernel⟩
/-- at most two lines -/
def sp_aheads (K : PySem.W.Frag) : Sp := fun vs H Q _ => ∃ (a : Addr) (ts : List Addr) (R : List Pk.PR) (f : Str), vs = [.ref a] ∧ SqL K H a (ts.map V.ref) ∧ Pk.AllAt Pk.LineAt H ts R ∧ Pk.Two f R ∧ ∀ (p : Addr) (H' : Hp), Pk.Ex H H' → Pk.AheadAt H' p R → Q (.ref p) H'
theorem sp_aheads_len {K : PySem.W.Frag} {vs : List V} {H : Hp} {Q : VK} {E : XK} (h : sp_aheads K vs H Q E) : vs.length = 1 := by
  obtain ⟨_, _, _, _, rfl, _⟩ := h
  rfl
section
variable {P : Program} {w : World} {K : PySem.W.Frag} {mg : Str → Option Value} {base : Heap}
theorem ok_aheads (T : Txt K mg) : Pk.Ok P w K mg base CX0 1 (He.fAd K ("aheads", none)) ["lines"] (sp_aheads K) := by
  obtain ⟨fd, F⟩ := T.F_aheads
  refine ⟨fd, F.ok sc_aheads ?len ?body, F.bindsN fun _ _ _ _ _ _ us hl => match us, hl with | [_], _ => rfl⟩
  case len => exact fun vs H Q E h => sp_aheads_len h
  intro cdv A outer s H vs Q E hr h
  have hu := hu_of hr
  have hu64 := hr.units
  have hu65 := Pk.units65 hr
  refine ⟨_, PSs.nox ((pss_cons (ps_set (i := 1) sc_aheads.nd rfl (Or.inl rfl) pe_dnewT)
      (pss_cons (ps_for PassesOwn.never rfl (Pk.piL K (pv 0)) (pg_name (i := 2) sc_aheads.nd rfl (Or.inl rfl)) (pss_cons (ps_set (i := 3) sc_aheads.nd rfl (Or.inl rfl) pe_dnewT)
      (Evl.pss_cut (ps_if (pt_cmpR op_notN (pe_ix (Pk.ixT K) (pv 2) pe_int (fun _ _ => rfl)) pe_non (nomark _)) (pss_cons (ps_set (i := 3) sc_aheads.nd rfl (Or.inl rfl) (pe_callTy Pk.call_dictT0 (by rfl) T.b_dict Pk.bt_dict (pa_cons (pe_dget hu (pv 1) (pe_ix (Pk.ixT K) (pv 2) pe_int (fun _ _ => rfl)) (fun _ _ => rfl)) pa_nil)))
      (pss_one (ps_dput hu (pv 3) (pe_ix (Pk.ixT K) (pv 2) pe_int (fun _ _ => rfl)) pe_bl rfl))) pss_nil)
      (pss_cons (ps_dput hu (pv 1) (pe_ix (Pk.ixT K) (pv 2) pe_int (fun _ _ => rfl)) (pv 3) rfl)
      (pss_one (ps_for PassesOwn.never rfl (Pk.piL K (pe_callTy (call_list_dT rfl) (by rfl) T.b_list Pk.bt_list (pa_cons (pv 1) pa_nil))) (pg_name (i := 4) sc_aheads.nd rfl (Or.inl rfl)) (pss_one (ps_if (PW.pt (pw_and (pt_cmpR op_notN (pe_ix (Pk.ixT K) (pv 2) pe_int (fun _ _ => rfl)) pe_non (nomark _)) (pw_and1 (PW.pt (pw_or (pt_cmpR (Pk.eqDK K hu64) (pv 4) (pe_ix (Pk.ixT K) (pv 2) pe_int (fun _ _ => rfl)) (nomark _)) (pw_or1 (pt_cmp (pc_din hu (pe_ix (Pk.ixT K) (pv 2) pe_int (fun _ _ => rfl)) (pe_dget hu (pv 1) (pv 4) (fun _ _ => rfl)))))))))) Pk.pss_never pss_nil))))))))
      (pss_one (ps_ret (pv 1)))))), ?_⟩

  obtain ⟨a, ts, R, f, rfl, hA, al, tw, q⟩ := h
  wtm_at "go"
  intro p0 n_p0
  generalize q_p0 : upd _ p0 _ = H0
  have x_H0 := Pk.lay_ex n_p0 q_p0
  have s_p0 := Pk.lay_at q_p0
  clear q_p0
  wtm_at "go"
  cases tw with
  | no =>
    have e0 : ts = [] := List.length_eq_zero_iff.mp al.len
    subst e0
    have hA0 := x_H0.seqL hA
    refine ⟨⟨_, hA0⟩, Pk.for_unr 0 (Pk.w_end (Pk.endL hA0 (Nat.le_refl _) ?_))⟩
    wtm_at "go"
    exact q p0 _ x_H0 s_p0
  | one x h1 h2 h3 =>
    obtain ⟨t0, rfl, k0, u, l1, l2, l3⟩ := al.ts1
    rw [h1] at l3
    obtain rfl : u = .non := l3
    have hA0 := x_H0.seqL hA
    have T0 := SqT.of (K := K) (x_H0 _ _ l1)
    refine ⟨⟨_, hA0⟩, Pk.for_unr 1 (Pk.w_go (Pk.turnL hA0 (x := .ref t0) rfl ?_))⟩
    wtm_at "go"
    intro m0 n_m0
    generalize q_m0 : upd _ m0 _ = H1
    have x_H1 := Pk.lay_ex n_m0 q_m0
    have s_m0 := Pk.lay_at q_m0
    clear q_m0
    wtm_at "go"
    refine Pk.rd_cut (fun σ' H' => H' = H1 ∧ σ' = [some (.ref a), some (.ref p0), some (.ref t0), some (.ref m0), none]) ?_ ?_
    · wtm_at "go"
      refine Pk.rd_ixT (x_H1.seqT T0) (Pk.at_nat (k := 2) rfl) ?_
      wtm_at "go"
      refine Pk.rd_nyes rfl ?_
      wtm_at "go"
      exact ⟨rfl, rfl⟩
    rintro σ' H' ⟨rfl, rfl⟩
    have e1 : Pk.Ex H H' := x_H0.trans x_H1
    wtm_at "go"
    refine Pk.rd_ixT (x_H1.seqT T0) (Pk.at_nat (k := 0) rfl) ?_
    refine ⟨p0, _, rfl, DPut.t (k := Pk.kT x.nm) (x_H1 _ _ s_p0) (e1 _ _ l2) (Pk.line_lt (by decide)), ?_⟩
    generalize q_H2 : upd _ p0 _ = H2
    have s_H2 := Pk.lay_at q_H2
    have m_H2 := Pk.lay_mut q_H2
    clear q_H2
    have m02 : H2 m0 = some (.dT []) := m_H2 _ _ (by rintro rfl; rw [s_p0] at n_m0; cases n_m0) s_m0
    have e2 : Pk.Ex H H2 := e1.mut2 n_p0 m_H2
    wtm_at "go"
    refine ⟨p0, _, rfl, .inl s_H2, ?_⟩
    intro q1 bsq1 n_q1 hbq1
    generalize q_q1 : upd _ q1 _ = H3
    have x_H3 := Pk.lay_ex n_q1 q_q1
    have s_q1 := Pk.lay_at q_q1
    clear q_q1
    wtm_at "go"
    have t_q1 : SqT K H3 t0 _ := SqT.of (x_H3 _ _ (e2 _ _ l1))
    refine ⟨⟨_, SqL.of s_q1⟩, for_list (K := K) (a := q1) (xs := bsq1.map V.ref) (fun i σ H' => H' = H3 ∧ ∃ v, σ = [some (.ref a), some (.ref p0), some (.ref t0), some (.ref m0), v]) ⟨rfl, _, rfl⟩ (fun i σ H' _ z => by rw [z.1]; exact SqL.of s_q1) ?_ ?_⟩
    · rintro i x σ H' hx ⟨rfl, v, rfl⟩
      wtm_at "go"
      refine Pk.rd_ixT t_q1 (Pk.at_nat (k := 3) rfl) ?_
      wtm_at "go"
      refine Pk.rd_nyes rfl ?_
      wtm_at "go"
      exact ⟨rfl, _, rfl⟩
    rintro σ H' ⟨rfl, v, rfl⟩
    wtm_at "go"
    refine Pk.w_end (Pk.endL ((e2.trans x_H3).seqL hA) (Nat.le_refl _) ?_)
    wtm_at "go"
    refine q p0 _ (e2.trans x_H3) ⟨m0, ?_, x_H3 _ _ m02⟩
    rw [x_H3 _ _ s_H2]
    rfl
  | two x y h1 h2 h3 h4 h5 h6 =>
    obtain ⟨t0, t1, rfl, ⟨k0, u, l1, l2, l3⟩, k1, u1, y1, y2, y3⟩ := al.ts2
    rw [h1] at l3
    obtain rfl : u = .non := l3
    rw [h4] at y3
    obtain ⟨ut, rfl, y4⟩ := y3
    have hA0 := x_H0.seqL hA
    have T0 := SqT.of (K := K) (x_H0 _ _ l1)
    refine ⟨⟨_, hA0⟩, Pk.for_unr 2 (Pk.w_go (Pk.turnL hA0 (x := .ref t0) rfl ?_))⟩
    wtm_at "go"
    intro m0 n_m0
    generalize q_m0 : upd _ m0 _ = H1
    have x_H1 := Pk.lay_ex n_m0 q_m0
    have s_m0 := Pk.lay_at q_m0
    clear q_m0
    wtm_at "go"
    refine Pk.rd_cut (fun σ' H' => H' = H1 ∧ σ' = [some (.ref a), some (.ref p0), some (.ref t0), some (.ref m0), none]) ?_ ?_
    · wtm_at "go"
      refine Pk.rd_ixT (x_H1.seqT T0) (Pk.at_nat (k := 2) rfl) ?_
      wtm_at "go"
      refine Pk.rd_nyes rfl ?_
      wtm_at "go"
      exact ⟨rfl, rfl⟩
    rintro σ' H' ⟨rfl, rfl⟩
    have e1 : Pk.Ex H H' := x_H0.trans x_H1
    wtm_at "go"
    refine Pk.rd_ixT (x_H1.seqT T0) (Pk.at_nat (k := 0) rfl) ?_
    refine ⟨p0, _, rfl, DPut.t (k := Pk.kT x.nm) (x_H1 _ _ s_p0) (e1 _ _ l2) (Pk.line_lt (by decide)), ?_⟩
    generalize q_H2 : upd _ p0 _ = H2
    have s_H2 := Pk.lay_at q_H2
    have m_H2 := Pk.lay_mut q_H2
    clear q_H2
    have m02 : H2 m0 = some (.dT []) := m_H2 _ _ (by rintro rfl; rw [s_p0] at n_m0; cases n_m0) s_m0
    have e2 : Pk.Ex H H2 := e1.mut2 n_p0 m_H2
    wtm_at "go"
    refine ⟨p0, _, rfl, .inl s_H2, ?_⟩
    intro q1 bsq1 n_q1 hbq1
    generalize q_q1 : upd _ q1 _ = H3
    have x_H3 := Pk.lay_ex n_q1 q_q1
    have s_q1 := Pk.lay_at q_q1
    clear q_q1
    wtm_at "go"
    have t_q1 : SqT K H3 t0 _ := SqT.of (x_H3 _ _ (e2 _ _ l1))
    refine ⟨⟨_, SqL.of s_q1⟩, for_list (K := K) (a := q1) (xs := bsq1.map V.ref) (fun i σ H' => H' = H3 ∧ ∃ v, σ = [some (.ref a), some (.ref p0), some (.ref t0), some (.ref m0), v]) ⟨rfl, _, rfl⟩ (fun i σ H' _ z => by rw [z.1]; exact SqL.of s_q1) ?_ ?_⟩
    · rintro i x σ H' hx ⟨rfl, v, rfl⟩
      wtm_at "go"
      refine Pk.rd_ixT t_q1 (Pk.at_nat (k := 3) rfl) ?_
      wtm_at "go"
      refine Pk.rd_nyes rfl ?_
      wtm_at "go"
      exact ⟨rfl, _, rfl⟩
    rintro σ H' ⟨rfl, v, rfl⟩
    wtm_at "go"
    have e3 := e2.trans x_H3
    refine Pk.w_go (Pk.turnL (e3.seqL hA) (x := .ref t1) rfl ?_)
    have T1 := SqT.of (K := K) (e3 _ _ y1)
    wtm_at "go"
    intro g1 n_g1
    generalize q_g1 : upd _ g1 _ = H4
    have x_H4 := Pk.lay_ex n_g1 q_g1
    have s_g1 := Pk.lay_at q_g1
    clear q_g1
    wtm_at "go"
    have f4 : H4 p0 = some (.dT [(Pk.kT x.nm, .ref m0)]) := x_H4 _ _ (by rw [x_H3 _ _ s_H2]; rfl)
    have m04 := x_H4 _ _ (x_H3 _ _ m02)
    have e4 := e3.trans x_H4
    have y44 : H4 ut = some (.tup ((Pk.kT x.nm).map kV)) := by
      rw [e4 _ _ y4, h6, h2]
      rfl
    refine Pk.rd_cut (fun σ' H' => ∃ m1, (∀ b o, H4 b = some o → H' b = some o) ∧ H4 m1 = none ∧ H' m1 = some (.dT [(Pk.kT x.nm, .bl true)]) ∧ σ' = [some (.ref a), some (.ref p0), some (.ref t1), some (.ref m1), v]) ?_ ?_
    · wtm_at "go"
      have T14 := x_H4.seqT T1
      refine Pk.rd_ixT T14 (Pk.at_nat (k := 2) rfl) ?_
      wtm_at "go"
      refine Pk.rd_nno (fun z => nomatch z) ?_
      wtm_at "go"
      refine Pk.rd_ixT T14 (Pk.at_nat (k := 2) rfl) ?_
      refine ⟨p0, _, rfl, Pk.dgetT (ks := Pk.kT x.nm) f4 y44 (valV_pos rfl), ?_⟩
      wtm_at "go"
      refine ⟨m0, rfl, m04, ?_⟩
      intro m1 n_m1
      generalize q_m1 : upd _ m1 _ = H5
      have x_H5 := Pk.lay_ex n_m1 q_m1
      have s_m1 := Pk.lay_at q_m1
      clear q_m1
      wtm_at "go"
      refine Pk.rd_ixT (x_H5.seqT T14) (Pk.at_nat (k := 2) rfl) ?_
      refine ⟨m1, _, rfl, DPut.t (k := Pk.kT x.nm) s_m1 (x_H5 _ _ y44) (Pk.line_lt (by decide)), ?_⟩
      generalize q_H5b : upd _ m1 _ = H5b
      have s_H5b := Pk.lay_at q_H5b
      have m_H5b := Pk.lay_mut q_H5b
      clear q_H5b
      wtm_at "go"
      exact ⟨m1, fun b o z => m_H5b _ _ (ne_of_none z n_m1) (x_H5 _ _ z), n_m1, s_H5b, rfl⟩
    rintro σ' H' ⟨m1, e5, n1, s1, rfl⟩
    have ex5 : Pk.Ex H4 H' := e5
    have T15 := ex5.seqT (x_H4.seqT T1)
    wtm_at "go"
    refine Pk.rd_ixT T15 (Pk.at_nat (k := 0) rfl) ?_
    refine ⟨p0, _, rfl, DPut.t (k := Pk.kT y.nm) (e5 _ _ f4) ((e4.trans ex5) _ _ y2) (Pk.line_lt (by show 1 < 100000; decide)), ?_⟩
    generalize q_H6 : upd _ p0 _ = H6
    have s_H6 := Pk.lay_at q_H6
    have m_H6 := Pk.lay_mut q_H6
    clear q_H6
    have nm1 : m1 ≠ p0 := by
      rintro rfl
      rw [f4] at n1
      cases n1
    have nm0 : m0 ≠ p0 := by
      rintro rfl
      rw [f4] at m04
      cases m04
    have e6 : Pk.Ex H H6 := (e4.trans ex5).mut2 n_p0 m_H6
    wtm_at "go"
    refine ⟨p0, _, rfl, .inl s_H6, ?_⟩
    intro q2 bsq2 n_q2 hbq2
    generalize q_q2 : upd _ q2 _ = H7
    have x_H7 := Pk.lay_ex n_q2 q_q2
    have s_q2 := Pk.lay_at q_q2
    clear q_q2
    wtm_at "go"
    have t_q2 : SqT K H7 t1 _ := SqT.of (x_H7 _ _ (e6 _ _ y1))
    refine ⟨⟨_, SqL.of s_q2⟩, for_list (K := K) (a := q2) (xs := bsq2.map V.ref) (fun i σ H' => H' = H7 ∧ ∃ v, σ = [some (.ref a), some (.ref p0), some (.ref t1), some (.ref m1), v]) ⟨rfl, _, rfl⟩ (fun i σ H' _ z => by rw [z.1]; exact SqL.of s_q2) ?_ ?_⟩
    · rintro i x σ H' hx ⟨rfl, v, rfl⟩
      wtm_at "go"
      refine Pk.rd_ixT t_q2 (Pk.at_nat (k := 3) rfl) ?_
      wtm_at "go"
      refine Pk.rd_nyes rfl ?_
      wtm_at "go"
      exact ⟨rfl, _, rfl⟩
    rintro σ H' ⟨rfl, v, rfl⟩
    wtm_at "go"
    refine Pk.w_end (Pk.endL ((e6.trans x_H7).seqL hA) (Nat.le_refl _) ?_)
    wtm_at "go"
    refine q p0 _ (e6.trans x_H7) ⟨m0, m1, ?_, x_H7 _ _ (m_H6 _ _ nm0 (e5 _ _ m04)), x_H7 _ _ (m_H6 _ _ nm1 s1)⟩
    rw [x_H7 _ _ s_H6]
    have nk : valV [(Pk.kT x.nm, V.ref m0)] (Pk.kT y.nm) = none := by
      refine valV_neg (fun z => ?_)
      have w := Pk.kT_inj z
      exact h5 (by rw [← w, h2])
    rw [putK_new _ nk]
    rfl
end
end PkC
namespace PkC
open PySem PySem.Spec PyProof.Rows L2
theorem sc_standing : FnScope ["patches", "file", "live", "gone", "patch", "name", "line"] ["patches", "file"] (defScope s_standing) := ⟨rfl, rfl, rfl, by decide +kernel, rfl, by decide +kernel, by decide +kernel⟩
/-- all lines of the file -/
def sp_standing (K : PySem.W.Frag) : Sp := fun vs H Q _ => ∃ (a : Addr) (L : List Pk.PR) (f : Str), vs = [.ref a, .str f] ∧ SqL K H a (L.map fun r => V.ref r.ad) ∧ (∀ r ∈ L, Pk.PatAt K H r) ∧ L.length ≤ 20 ∧ ∀ (p : Addr) (ks : List Addr) (H' : Hp), Pk.Ex H H' → H p = none → H' p = some (.lst (ks.map V.ref)) → Pk.AllAt Pk.KeyR H' ks (Pk.ofF f L) → Q (.ref p) H'
theorem sp_standing_len {K : PySem.W.Frag} {vs : List V} {H : Hp} {Q : VK} {E : XK} (h : sp_standing K vs H Q E) : vs.length = 2 := by
  obtain ⟨_, _, _, rfl, _⟩ := h
  rfl
section
variable {P : Program} {w : World} {K : PySem.W.Frag} {mg : Str → Option Value} {base : Heap}
theorem ok_standing (T : Txt K mg) : Pk.Ok P w K mg base CX0 2 (He.fAd K ("standing", none)) ["patches", "file"] (sp_standing K) := by
  obtain ⟨fd, F⟩ := T.F_standing
  obtain ⟨fd_live_of, G_live_of, B_live_of⟩ := (ok_live_of (P := P) (w := w) (base := base) T).ex
  obtain ⟨fd_lines_of, G_lines_of, B_lines_of⟩ := (ok_lines_of (P := P) (w := w) (base := base) T).ex
  refine ⟨fd, F.ok sc_standing ?len ?body, F.bindsN fun _ _ _ _ _ _ us hl => match us, hl with | [_, _], _ => rfl⟩
  case len => exact fun vs H Q E h => sp_standing_len h
  intro cdv A outer s H vs Q E hr h
  have hu := hu_of hr
  have hu64 := hr.units
  have hu65 := Pk.units65 hr
  refine ⟨_, PSs.nox ((pss_cons (ps_set (i := 2) sc_standing.nd rfl (Or.inl rfl) (pe_call G_live_of (hr.mono (by decide)) rfl T.g_live_of T.k_live_of B_live_of .nil pass0 (pa_cons (pv 0) pa_nil)))
      (pss_cons (ps_set (i := 3) sc_standing.nd rfl (Or.inr rfl) pe_dnewT)
      (pss_cons (ps_for PassesOwn.never rfl (Pk.piL K (pv 2)) (pg_name (i := 4) sc_standing.nd rfl (Or.inl rfl)) (pss_one (ps_for PassesOwn.never rfl (Pk.piL K (Pk.fldK K (pv 4) rfl)) (pg_name (i := 5) sc_standing.nd rfl (Or.inl rfl)) Pk.pss_never)))
      (pss_one (ps_ret (pe_lc (own := [("line", 6)]) (g := gName 6) rfl sc_standing.nd (Pk.piL K (pe_call G_lines_of (hr.mono (by decide)) rfl T.g_lines_of T.k_lines_of B_lines_of .nil pass0 (pa_cons (pv 2) (pa_cons (pv 1) pa_nil)))) (blkOk_by (own := [("line", 6)]) (N := ["patches", "file", "live", "gone", "patch", "name", "line"]) (sc := defScope s_standing) (by decide +kernel)) (fun _ _ _ _ _ => (pg_name (i := 6) sc_standing.nd rfl (Or.inl rfl))) (fun _ _ _ _ _ => (pts_one (pt_cmp (pc_dnotin hu (pe_ix (Pk.ixT K) (pv 6) pe_int (fun _ _ => rfl)) (pv 3))))) (fun _ _ _ _ _ => (pe_ix (Pk.ixT K) (pv 6) pe_int (fun _ _ => rfl)))))))))), ?_⟩

  obtain ⟨a, L, f, rfl, hA, hP, hL, q⟩ := h
  wtm_at "go"
  refine ⟨a, L, rfl, hA, hP, hL, fun p1 H1 e1 s1 => ?_⟩
  wtm_at "go"
  intro p2 n_p2
  generalize q_p2 : upd _ p2 _ = H2
  have x_H2 := Pk.lay_ex n_p2 q_p2
  have s_p2 := Pk.lay_at q_p2
  clear q_p2
  wtm_at "go"
  have s12 := SqL.of (K := K) (x_H2 _ _ s1)
  have e2 := e1.trans x_H2
  refine ⟨⟨_, s12⟩, for_list (K := K) (a := p1) (xs := L.map fun r => V.ref r.ad) (fun i σ H' => H' = H2 ∧ ∃ v4 v5 v6, σ = [some (.ref a), some (.str f), some (.ref p1), some (.ref p2), v4, v5, v6]) ⟨rfl, _, _, _, rfl⟩ (fun i σ H' _ z => by rw [z.1]; exact s12) ?_ ?_⟩
  · rintro i x σ H' hx ⟨rfl, v4, v5, v6, rfl⟩
    obtain ⟨r, hr, rfl⟩ := List.mem_map.mp (List.mem_of_getElem? hx)
    have P := (hP r hr).ex e2
    obtain ⟨dx, nd, kvs, o1, _, _⟩ := P.obj
    wtm_at "go"
    refine Pk.rd_fldA o1 T.c_Patch T.n_Patch_cuts rfl ?_
    wtm_at "go"
    refine ⟨⟨_, SqL.of P.cuts⟩, Pk.for_none (Pk.stopL (SqL.of P.cuts)) ?_⟩
    wtm_at "go"
    exact ⟨rfl, _, _, _, rfl⟩
  · rintro σ H' ⟨rfl, v4, v5, v6, rfl⟩
    wtm_at "go"
    refine ⟨p1, L, f, rfl, s12, fun r hr => (hP r hr).ex e2, hL, fun p3 ts H3 e3 s3 al => ?_⟩
    obtain ⟨zs, rfl, ak, hz⟩ := Pk.lines_keys al
    wtm_at "go"
    have s3' : SqL K H3 p3 (zs.map fun z => V.ref z.1) := SqL.of (by rw [s3, List.map_map]; rfl)
    have lz : zs.length ≤ 20 := by
      have z := ak.len
      rw [List.length_map] at z
      have y : (Pk.ofF f L).length ≤ L.length := List.length_filter_le _ _
      omega
    have g3 := e3 _ _ s_p2
    refine ⟨⟨_, s3'⟩, Pk.lcF zs (fun z => V.ref z.1) (fun _ => true) (fun z => V.ref z.2) s3' (by omega) (fun _ => rfl) (fun z hzm H' QT e qt => ?_) (fun z hzm _ H' Q' e q' => ?_) (fun p hp => ?_)⟩
    · obtain ⟨⟨xs, z1⟩, s, z2⟩ := hz z hzm
      wtm_at "go"
      refine Pk.rd_ixT (SqT.of (e _ _ z1)) (Pk.at_nat (k := 0) rfl) ?_
      wtm_at "go"
      refine ⟨p2, _, rfl, DGet.t (k := Pk.kT s) (e _ _ g3) (e _ _ z2), ?_⟩
      wtm_at "go"
      exact qt
    · obtain ⟨⟨xs, z1⟩, s, z2⟩ := hz z hzm
      wtm_at "go"
      refine Pk.rd_ixT (SqT.of (e _ _ z1)) (Pk.at_nat (k := 0) rfl) ?_
      exact q'
    · have ef : zs.filter (fun _ => true) = zs := by simp
      rw [ef]
      have x3 := Pk.Ex.new (o := .lst (zs.map fun z => V.ref z.2)) hp
      refine q p (zs.map Prod.snd) _ (e2.trans (e3.trans x3)) ((e2.trans e3).back hp) ?_ (ak.imp (P' := Pk.KeyR) fun t r h => Pk.KeyR.ex h x3)
      rw [upd_same, List.map_map]
      rfl
end
end PkC
namespace PkC
open PySem PySem.Spec PyProof.Rows L2
theorem sc_may_come : FnScope ["name", "left", "ahead", "other"] ["name", "left", "ahead"] (defScope s_may_come) := ⟨rfl, rfl, rfl, by decide +kernel, rfl, by decide +kernel, by decide +kernel⟩
/-- is none of the left ones ahead of it? -/
def sp_may_come (K : PySem.W.Frag) : Sp := fun vs H Q _ => ∃ (k l d m : Addr) (s : Str) (js : List Addr) (rs : List Pk.PR) (kvs : List (List Key × V)) (mk : List (List Key × V)), vs = [.ref k, .ref l, .ref d] ∧ Pk.KeyAt H k s ∧ SqL K H l (js.map V.ref) ∧ Pk.AllAt Pk.KeyR H js rs ∧ H d = some (.dT kvs) ∧ valV kvs (Pk.kT s) = some (.ref m) ∧ H m = some (.dT mk) ∧ Q (.bl (rs.all fun r => (valV mk (Pk.kT r.nm)).isNone)) H
theorem sp_may_come_len {K : PySem.W.Frag} {vs : List V} {H : Hp} {Q : VK} {E : XK} (h : sp_may_come K vs H Q E) : vs.length = 3 := by
  obtain ⟨_, _, _, _, _, _, _, _, _, rfl, _⟩ := h
  rfl
section
variable {P : Program} {w : World} {K : PySem.W.Frag} {mg : Str → Option Value} {base : Heap}
theorem ok_may_come (T : Txt K mg) : Pk.Ok P w K mg base CX0 1 (He.fAd K ("may_come", none)) ["name", "left", "ahead"] (sp_may_come K) := by
  obtain ⟨fd, F⟩ := T.F_may_come
  refine ⟨fd, F.ok sc_may_come ?len ?body, F.bindsN fun _ _ _ _ _ _ us hl => match us, hl with | [_, _, _], _ => rfl⟩
  case len => exact fun vs H Q E h => sp_may_come_len h
  intro cdv A outer s H vs Q E hr h
  have hu := hu_of hr
  have hu64 := hr.units
  have hu65 := Pk.units65 hr
  refine ⟨_, PSs.nox ((pss_cons (ps_for PassesOwn.never rfl (Pk.piL K (pv 1)) (pg_name (i := 3) sc_may_come.nd rfl (Or.inl rfl)) (pss_one (ps_if (pt_cmp (pc_din hu (pv 3) (pe_dget hu (pv 2) (pv 0) (fun _ _ => rfl)))) (pss_one (ps_ret pe_bl)) pss_nil)))
      (pss_one (ps_ret pe_bl)))), ?_⟩

  obtain ⟨k, l, d, m, s, js, rs, kvs, mk, rfl, hk, hl, hj, hd, hv, hm, q⟩ := h
  wtm_at "go"
  have hln := hj.len
  refine ⟨⟨_, hl⟩, for_list (K := K) (a := l) (xs := js.map V.ref) (fun i σ H' => H' = H ∧ (∃ v, σ = [some (.ref k), some (.ref l), some (.ref d), v]) ∧ (rs.take i).all (fun r => (valV mk (Pk.kT r.nm)).isNone) = true) ⟨rfl, ⟨_, rfl⟩, rfl⟩ (fun i σ H' _ z => by rw [z.1]; exact hl) ?_ ?_⟩
  · rintro i x σ H' hx ⟨rfl, ⟨v, rfl⟩, al⟩
    have pick : ∃ j, js[i]? = some j ∧ x = .ref j := by
      rw [List.getElem?_map] at hx
      cases e : js[i]? with
      | none =>
        rw [e] at hx
        cases hx
      | some j =>
        rw [e] at hx
        cases hx
        exact ⟨j, rfl, rfl⟩
    obtain ⟨j, ej, rfl⟩ := pick
    obtain ⟨r, er, hk2⟩ := Pk.AllAt.at_ hj ej
    have tk : rs.take (i + 1) = rs.take i ++ [r] := by
      rw [List.take_succ, er]
      rfl
    wtm_at "go"
    refine ⟨d, _, rfl, Pk.dgetT (ks := Pk.kT s) hd hk hv, ?_⟩
    refine ⟨m, _, rfl, DGet.t (k := Pk.kT r.nm) hm hk2, ?_⟩
    cases e : valV mk (Pk.kT r.nm) with
    | none =>
      wtm_at "go"
      refine ⟨rfl, ⟨_, rfl⟩, ?_⟩
      rw [tk, List.all_append, al]
      simp [e]
    | some w =>
      wtm_at "go"
      have no : (rs.all fun r => (valV mk (Pk.kT r.nm)).isNone) = false := by
        rw [List.all_eq_false]
        exact ⟨r, List.mem_of_getElem? er, by rw [e]; exact Bool.false_ne_true⟩
      rw [no] at q
      exact q
  · rintro σ H' ⟨rfl, ⟨v, rfl⟩, al⟩
    wtm_at "go"
    rw [List.length_map, hln, List.take_length] at al
    rw [al] at q
    exact q
end
end PkC
namespace PkC
open PySem PySem.Spec PyProof.Rows L2
theorem sc_row_of : FnScope ["patches", "file", "ahead", "left", "row", "free", "name"] ["patches", "file"] (defScope s_row_of) := ⟨rfl, rfl, rfl, by decide +kernel, rfl, by decide +kernel, by decide +kernel⟩
/-- the lines in their order -/
def sp_row_of (K : PySem.W.Frag) : Sp := fun vs H Q _ => ∃ (a : Addr) (L : List Pk.PR) (f : Str), vs = [.ref a, .str f] ∧ SqL K H a (L.map fun r => V.ref r.ad) ∧ (∀ r ∈ L, Pk.PatAt K H r) ∧ L.length ≤ 20 ∧ Pk.Two f (Pk.ofF f L) ∧ ∀ (p : Addr) (ks : List Addr) (H' : Hp), Pk.Ex H H' → H' p = some (.lst (ks.map V.ref)) → Pk.AllAt Pk.KeyR H' ks (Pk.ofF f L) → Q (.ref p) H'
theorem sp_row_of_len {K : PySem.W.Frag} {vs : List V} {H : Hp} {Q : VK} {E : XK} (h : sp_row_of K vs H Q E) : vs.length = 2 := by
  obtain ⟨_, _, _, rfl, _⟩ := h
  rfl
section
variable {P : Program} {w : World} {K : PySem.W.Frag} {mg : Str → Option Value} {base : Heap}
theorem ok_row_of (T : Txt K mg) : Pk.Ok P w K mg base CX0 3 (He.fAd K ("row_of", none)) ["patches", "file"] (sp_row_of K) := by
  obtain ⟨fd, F⟩ := T.F_row_of
  obtain ⟨fd_aheads, G_aheads, B_aheads⟩ := (ok_aheads (P := P) (w := w) (base := base) T).ex
  obtain ⟨fd_standing, G_standing, B_standing⟩ := (ok_standing (P := P) (w := w) (base := base) T).ex
  obtain ⟨fd_lines_of, G_lines_of, B_lines_of⟩ := (ok_lines_of (P := P) (w := w) (base := base) T).ex
  obtain ⟨fd_may_come, G_may_come, B_may_come⟩ := (ok_may_come (P := P) (w := w) (base := base) T).ex
  refine ⟨fd, F.ok sc_row_of ?len ?body, F.bindsN fun _ _ _ _ _ _ us hl => match us, hl with | [_, _], _ => rfl⟩
  case len => exact fun vs H Q E h => sp_row_of_len h
  intro cdv A outer s H vs Q E hr h
  have hu := hu_of hr
  have hu64 := hr.units
  have hu65 := Pk.units65 hr
  refine ⟨_, PSs.nox ((pss_cons (ps_set (i := 2) sc_row_of.nd rfl (Or.inr rfl) (pe_call G_aheads (hr.mono (by decide)) rfl T.g_aheads T.k_aheads B_aheads .nil pass0 (pa_cons (pe_call G_lines_of (hr.mono (by decide)) rfl T.g_lines_of T.k_lines_of B_lines_of .nil pass0 (pa_cons (pv 0) (pa_cons (pv 1) pa_nil))) pa_nil)))
      (pss_cons (ps_set (i := 3) sc_row_of.nd rfl (Or.inr rfl) (pe_call G_standing (hr.mono (by decide)) rfl T.g_standing T.k_standing B_standing .nil pass0 (pa_cons (pv 0) (pa_cons (pv 1) pa_nil))))
      (pss_cons (ps_set (i := 4) sc_row_of.nd rfl (Or.inl rfl) (pe_lst pa_nil))
      (pss_cons (ps_while PassesOwn.never (pt_cmpR op_gt (pe_callB (Pk.lenK K) (by rfl) T.b_len Pk.bt_len (pa_cons (pv 3) pa_nil)) pe_int (nomark _)) (pss_cons (ps_setLc (i := 5) (own := [("name", 6)]) (g := gName 6) rfl sc_row_of.nd rfl rfl (sw_true rfl rfl rfl (by decide +kernel)) (Pk.piL K (pv 3)) (blkOk_by (own := [("name", 6)]) (N := ["patches", "file", "ahead", "left", "row", "free", "name"]) (sc := defScope s_row_of) (by decide +kernel)) (fun _ _ _ _ _ => (pg_name (i := 6) sc_row_of.nd rfl (Or.inl rfl))) (fun _ _ _ _ _ => (pts_one (pt_val (pe_call G_may_come (hr.mono (by decide)) rfl T.g_may_come T.k_may_come B_may_come .nil pass0 (pa_cons (pv 6) (pa_cons (pv 3) (pa_cons (pv 2) pa_nil))))))) (fun _ _ _ _ _ => (pv 6)))
      (pss_cons (ps_expr (pe_bm PySem.F.plainAttrs_list PySem.F.slot_list_append PySem.F.type_list_append mt_append (pv 4) (pa_cons (pe_ix (Pk.ixL K) (pv 5) pe_int (fun _ _ => rfl)) pa_nil)))
      (pss_one (ps_expr (pe_bm PySem.F.plainAttrs_list PySem.F.slot_list_remove PySem.F.type_list_remove Pk.mt_rem0 (pv 3) (pa_cons (pe_ix (Pk.ixL K) (pv 5) pe_int (fun _ _ => rfl)) pa_nil)))))))
      (pss_one (ps_ret (pv 4)))))))), ?_⟩

  obtain ⟨a, L, f, rfl, hA, hP, hL, tw, q⟩ := h
  wtm_at "go"
  refine ⟨a, L, f, rfl, hA, hP, hL, fun p1 ts H1 e1 s1 al1 => ?_⟩
  wtm_at "go"
  refine ⟨p1, ts, Pk.ofF f L, f, rfl, SqL.of s1, al1, tw, fun pa H2 e2 ah => ?_⟩
  wtm_at "go"
  have e12 := e1.trans e2
  refine ⟨a, L, f, rfl, e12.seqL hA, fun r hr => (hP r hr).ex e12, hL, fun p3 ks H3 e3 np3 s3 ak => ?_⟩
  wtm_at "go"
  refine ⟨Nat.le_of_ble_eq_true rfl, fun p4 n_p4 => ?_⟩
  generalize q_p4 : upd _ p4 _ = H4
  have x_H4 := Pk.lay_ex n_p4 q_p4
  have s_p4 := Pk.lay_at q_p4
  clear q_p4
  wtm_at "go"
  have e4 := e12.trans (e3.trans x_H4)
  have s34 := x_H4 _ _ s3
  have ak4 := ak.imp (P' := Pk.KeyR) (fun t r h => Pk.KeyR.ex h x_H4)
  have ah4 := ah.ex (e3.trans x_H4)
  have n34 : p3 ≠ p4 := by
    rintro rfl
    rw [s3] at n_p4
    cases n_p4
  generalize Pk.ofF f L = R at *
  refine ⟨fun m σ' H' => Pk.ML H4 H' ∧ Pk.Ex H H' ∧ (∃ v5 v6, σ' = [some (.ref a), some (.str f), some (.ref pa), some (.ref p3), some (.ref p4), v5, v6]) ∧ ∃ pre post : List Addr, ks = pre ++ post ∧ post.length = m ∧ H' p3 = some (.lst (post.map V.ref)) ∧ H' p4 = some (.lst (pre.map V.ref)),
    ⟨ks.length, Pk.ML.refl, e4, ⟨_, _, rfl⟩, [], ks, rfl, rfl, s34, s_p4⟩, ?_⟩
  rintro m σ' H5 ⟨ml, e5, ⟨v5, v6, rfl⟩, pre, post, hks, hm, h3, h4⟩
  have sl := SqL.of (K := K) h3
  have ah5 := ah4.ml ml
  have ak5 := ak4.imp (P' := Pk.KeyR) (fun t r h => Pk.KeyR.ml h ml)
  wtm_at "go"
  rw [List.length_map]
  cases post with
  | nil =>
    refine Pk.rd_no (by decide) ?_
    wtm_at "go"
    rw [List.append_nil] at hks
    subst hks
    exact q p4 ks H5 e5 h4 ak5
  | cons k0 post =>
    refine Pk.rd_yes (by show (0 : Int) < ((post.length + 1 : Nat) : Int); omega) ?_
    subst hm
    refine ⟨fun σ' H' => ∃ m', m' < (k0 :: post).length ∧ (Pk.ML H4 H' ∧ Pk.Ex H H' ∧ (∃ v5 v6, σ' = [some (.ref a), some (.str f), some (.ref pa), some (.ref p3), some (.ref p4), v5, v6]) ∧ ∃ pre post : List Addr, ks = pre ++ post ∧ post.length = m' ∧ H' p3 = some (.lst (post.map V.ref)) ∧ H' p4 = some (.lst (pre.map V.ref))), fun σ' H' z => z, ?_⟩
    obtain ⟨kvs, rl, ys, b, g1, g2, g3, g4, g5⟩ := Pk.turn_of tw ah5 (by rw [← hks]; exact ak5)
    wtm_at "go"
    have sl' : SqL K H5 p3 (ys.map fun z => V.ref z.1) := by
      have z : (ys.map fun z => V.ref z.1) = (k0 :: post).map V.ref := by
        rw [← g3, List.map_map]
        rfl
      rw [z]
      exact sl
    have ly : ys.length ≤ 1000 := by
      have z := congrArg List.length g3
      rw [List.length_map] at z
      have y := ak5.len
      rw [hks, List.length_append] at y
      have w := tw.len
      omega
    refine ⟨⟨_, sl⟩, Pk.lcF ys (fun z => V.ref z.1) b (fun z => V.ref z.1) sl' ly (fun _ => rfl) (fun z hz H' QT e qt => ?_) (fun z hz _ H' Q' e q' => ?_) (fun pf npf => ?_)⟩
    · obtain ⟨w1, m, mk, w2, w3, w4⟩ := g4 z hz
      wtm_at "go"
      refine ⟨z.1, p3, pa, m, z.2.nm, k0 :: post, rl, kvs, mk, rfl, e _ _ w1, e.seqL sl, g2.imp (P' := Pk.KeyR) (fun t r h => Pk.KeyR.ex h e), e _ _ g1, w2, e _ _ w3, ?_⟩
      rw [← w4]
      wtm_at "go"
      exact qt
    · wtm_at "go"
      exact q'
    have gf : (ys.filter b).map (fun z => V.ref z.1) = [V.ref k0] := by
      have z := congrArg (List.map V.ref) g5
      rw [List.map_map] at z
      exact z
    rw [gf]
    generalize q_pf : upd _ pf _ = H6
    have x_H6 := Pk.lay_ex npf q_pf
    have s_pf := Pk.lay_at q_pf
    clear q_pf
    wtm_at "go"
    refine Pk.rd_ixL (SqL.of s_pf) (Pk.at_nat (k := 0) rfl) ?_
    wtm_at "go"
    have lpre : pre.length ≤ 2 := by
      have y := ak5.len
      rw [hks, List.length_append] at y
      have w := tw.len
      omega
    refine Pk.rd_app (x_H6 _ _ h4) (Pk.line_lt (by rw [List.length_map]; omega)) ?_
    generalize q_H7 : upd _ p4 _ = H7
    have s_H7 := Pk.lay_at q_H7
    have m_H7 := Pk.lay_mut q_H7
    clear q_H7
    wtm_at "go"
    have nf4 : pf ≠ p4 := by
      rintro rfl
      rw [h4] at npf
      cases npf
    have h37 := m_H7 _ _ n34 (x_H6 _ _ h3)
    have spf7 := m_H7 _ _ nf4 s_pf
    refine ⟨.inl ⟨rfl, _, SqL.of h37⟩, ?_⟩
    wtm_at "go"
    refine Pk.rd_ixL (SqL.of spf7) (Pk.at_nat (k := 0) rfl) ?_
    wtm_at "go"
    refine ⟨p3, k0, post.map V.ref, rfl, rfl, h37, ?_⟩
    generalize q_H8 : upd _ p3 _ = H8
    have s_H8 := Pk.lay_at q_H8
    have m_H8 := Pk.lay_mut q_H8
    clear q_H8
    wtm_at "go"
    have n4 : H p4 = none := (e12.trans e3).back n_p4
    have ml7 : Pk.ML H4 H7 := (ml.ex x_H6).mut (x_H6 _ _ h4) m_H7
    have n3 : H p3 = none := e12.back np3
    have e7 : Pk.Ex H H7 := (e5.trans x_H6).mut2 n4 m_H7
    refine ⟨post.length, Nat.lt_succ_self _, ml7.mut h37 m_H8, e7.mut2 n3 m_H8, ⟨_, _, rfl⟩, pre ++ [k0], post, by rw [hks, List.append_assoc]; rfl, rfl, s_H8, ?_⟩
    refine m_H8 _ _ (Ne.symm n34) ?_
    rw [s_H7, List.map_append]
    rfl
end
end PkC
namespace PkC
open PySem PySem.Spec PyProof.Rows L2
theorem sc_quarrels_of : FnScope ["patches", "file", "ahead", "row", "found", "i", "j"] ["patches", "file"] (defScope s_quarrels_of) := ⟨rfl, rfl, rfl, by decide +kernel, rfl, by decide +kernel, by decide +kernel⟩
/-- no two lines quarrel -/
def sp_quarrels_of (K : PySem.W.Frag) : Sp := fun vs H Q _ => ∃ (a : Addr) (L : List Pk.PR) (f : Str), vs = [.ref a, .str f] ∧ SqL K H a (L.map fun r => V.ref r.ad) ∧ (∀ r ∈ L, Pk.PatAt K H r) ∧ L.length ≤ 20 ∧ Pk.Two f (Pk.ofF f L) ∧ ∀ (p : Addr) (H' : Hp), Pk.Ex H H' → H' p = some (.lst []) → Q (.ref p) H'
theorem sp_quarrels_of_len {K : PySem.W.Frag} {vs : List V} {H : Hp} {Q : VK} {E : XK} (h : sp_quarrels_of K vs H Q E) : vs.length = 2 := by
  obtain ⟨_, _, _, rfl, _⟩ := h
  rfl
section
variable {P : Program} {w : World} {K : PySem.W.Frag} {mg : Str → Option Value} {base : Heap}
theorem ok_quarrels_of (T : Txt K mg) : Pk.Ok P w K mg base CX0 4 (He.fAd K ("quarrels_of", none)) ["patches", "file"] (sp_quarrels_of K) := by
  obtain ⟨fd, F⟩ := T.F_quarrels_of
  obtain ⟨fd_aheads, G_aheads, B_aheads⟩ := (ok_aheads (P := P) (w := w) (base := base) T).ex
  obtain ⟨fd_row_of, G_row_of, B_row_of⟩ := (ok_row_of (P := P) (w := w) (base := base) T).ex
  obtain ⟨fd_lines_of, G_lines_of, B_lines_of⟩ := (ok_lines_of (P := P) (w := w) (base := base) T).ex
  refine ⟨fd, F.ok sc_quarrels_of ?len ?body, F.bindsN fun _ _ _ _ _ _ us hl => match us, hl with | [_, _], _ => rfl⟩
  case len => exact fun vs H Q E h => sp_quarrels_of_len h
  intro cdv A outer s H vs Q E hr h
  have hu := hu_of hr
  have hu64 := hr.units
  have hu65 := Pk.units65 hr
  refine ⟨_, PSs.nox ((pss_cons (ps_set (i := 2) sc_quarrels_of.nd rfl (Or.inl rfl) (pe_call G_aheads (hr.mono (by decide)) rfl T.g_aheads T.k_aheads B_aheads .nil pass0 (pa_cons (pe_call G_lines_of (hr.mono (by decide)) rfl T.g_lines_of T.k_lines_of B_lines_of .nil pass0 (pa_cons (pv 0) (pa_cons (pv 1) pa_nil))) pa_nil)))
      (pss_cons (ps_set (i := 3) sc_quarrels_of.nd rfl (Or.inl rfl) (pe_call G_row_of (hr.mono (by decide)) rfl T.g_row_of T.k_row_of B_row_of .nil pass0 (pa_cons (pv 0) (pa_cons (pv 1) pa_nil))))
      (pss_cons (ps_set (i := 4) sc_quarrels_of.nd rfl (Or.inl rfl) (pe_lst pa_nil))
      (pss_cons (ps_for PassesOwn.never rfl (pi_range1 rfl T.b_range (pa_cons (pe_callB (Pk.lenK K) (by rfl) T.b_len Pk.bt_len (pa_cons (pv 3) pa_nil)) pa_nil)) (pg_name (i := 5) sc_quarrels_of.nd rfl (Or.inl rfl)) (pss_one (ps_for PassesOwn.never rfl (pi_range2 rfl T.b_range (pa_cons (pe_op op_add (pv 5) pe_int) (pa_cons (pe_callB (Pk.lenK K) (by rfl) T.b_len Pk.bt_len (pa_cons (pv 3) pa_nil)) pa_nil))) (pg_name (i := 6) sc_quarrels_of.nd rfl (Or.inl rfl)) (pss_one (ps_if (pt_cmp (pc_dnotin hu (pe_ix (Pk.ixL K) (pv 3) (pv 5) (fun _ _ => rfl)) (pe_dget hu (pv 2) (pe_ix (Pk.ixL K) (pv 3) (pv 6) (fun _ _ => rfl)) (fun _ _ => rfl)))) Pk.pss_never pss_nil)))))
      (pss_one (ps_ret (pv 4)))))))), ?_⟩

  obtain ⟨a, L, f, rfl, hA, hP, hL, tw, q⟩ := h
  wtm_at "go"
  refine ⟨a, L, f, rfl, hA, hP, hL, fun p1 ts H1 e1 s1 al1 => ?_⟩
  wtm_at "go"
  refine ⟨p1, ts, Pk.ofF f L, f, rfl, SqL.of s1, al1, tw, fun pa H2 e2 ah => ?_⟩
  wtm_at "go"
  have e12 := e1.trans e2
  refine ⟨a, L, f, rfl, e12.seqL hA, fun r hr => (hP r hr).ex e12, hL, tw, fun p3 ks H3 e3 s3 ak => ?_⟩
  wtm_at "go"
  refine ⟨Nat.le_of_ble_eq_true rfl, fun p4 n_p4 => ?_⟩
  generalize q_p4 : upd _ p4 _ = H4
  have x_H4 := Pk.lay_ex n_p4 q_p4
  have s_p4 := Pk.lay_at q_p4
  clear q_p4
  wtm_at "go"
  have e4 := e12.trans (e3.trans x_H4)
  have sr := SqL.of (K := K) (x_H4 _ _ s3)
  have ak4 := ak.imp (P' := Pk.KeyR) (fun t r h => Pk.KeyR.ex h x_H4)
  have ah4 := ah.ex (e3.trans x_H4)
  generalize Pk.ofF f L = R at *
  cases tw with
  | no =>
    have ln : (ks.map V.ref).length = 0 := by rw [List.length_map]; exact ak4.len
    rw [ln]
    refine ⟨by omega, by omega, Pk.for_unr 0 (Pk.w_end (Pk.endR (by omega) ?_))⟩
    wtm_at "go"
    exact q p4 H4 e4 s_p4
  | one x h1 h2 h3 =>
    have ln : (ks.map V.ref).length = 1 := by rw [List.length_map]; exact ak4.len
    rw [ln]
    refine ⟨by omega, by omega, Pk.for_unr 1 (Pk.w_go (Pk.turnR (by omega) ?_))⟩
    wtm_at "go"
    rw [ln]
    refine ⟨by omega, Pk.for_unr 0 (Pk.w_end (Pk.endR (by omega) ?_))⟩
    wtm_at "go"
    first | refine Pk.w_end (Pk.endR (by omega) ?_) | refine Pk.endR (by omega) ?_
    wtm_at "go"
    exact q p4 H4 e4 s_p4
  | two x y h1 h2 h3 h4 h5 h6 =>
    obtain ⟨t, t', rfl, kt, kt'⟩ := ak4.ts2
    obtain ⟨m, n, a1, a2, a3⟩ := ah4
    have ln : (List.map V.ref [t, t']).length = 2 := rfl
    rw [ln]
    refine ⟨by omega, by omega, Pk.for_unr 2 (Pk.w_go (Pk.turnR (by omega) ?_))⟩
    wtm_at "go"
    rw [ln]
    refine ⟨by omega, Pk.for_unr 1 (Pk.w_go (Pk.turnR (by omega) ?_))⟩
    wtm_at "go"
    refine Pk.rd_ixL sr (Pk.at_nat (k := 0) rfl) ?_
    wtm_at "go"
    refine Pk.rd_ixL sr (Pk.at_nat (k := 1) rfl) ?_
    have ne : ¬ Pk.kT x.nm = Pk.kT y.nm := fun z => h5 (by rw [← Pk.kT_inj z, h2])
    refine ⟨pa, _, rfl, Pk.dgetT (ks := Pk.kT y.nm) (v := .ref n) a1 kt' (by rw [valV_neg ne]; exact valV_pos rfl), ?_⟩
    refine ⟨n, _, rfl, DGet.t (k := Pk.kT x.nm) a3 kt, ?_⟩
    have e : valV [(Pk.kT x.nm, V.bl true)] (Pk.kT x.nm) = some (.bl true) := valV_pos rfl
    rw [e]
    wtm_at "go"
    first | refine Pk.w_end (Pk.endR (by omega) ?_) | refine Pk.endR (by omega) ?_
    wtm_at "go"
    refine Pk.w_go (Pk.turnR (by omega) ?_)
    wtm_at "go"
    rw [ln]
    refine ⟨by omega, Pk.for_unr 0 (Pk.w_end (Pk.endR (by omega) ?_))⟩
    wtm_at "go"
    first | refine Pk.w_end (Pk.endR (by omega) ?_) | refine Pk.endR (by omega) ?_
    wtm_at "go"
    exact q p4 H4 e4 s_p4
end
end PkC
namespace PkC
open PySem PySem.Spec PyProof.Rows L2
theorem sc_look_at : FnScope ["name", "sign"] ["name"] (defScope s_look_at) := ⟨rfl, rfl, rfl, by decide +kernel, rfl, by decide +kernel, by decide +kernel⟩
/-- a good name goes through, another one is told -/
def sp_look_at (K : PySem.W.Frag) : Sp := fun vs H Q E => ∃ (s : Str), vs = [.str s] ∧ s.length ≤ 1000 ∧ (Pk.Good s → Q .non H) ∧ (¬ Pk.Good s → E (.ref (He.ga K "BadName")) none H)
theorem sp_look_at_len {K : PySem.W.Frag} {vs : List V} {H : Hp} {Q : VK} {E : XK} (h : sp_look_at K vs H Q E) : vs.length = 1 := by
  obtain ⟨_, rfl, _⟩ := h
  rfl
section
variable {P : Program} {w : World} {K : PySem.W.Frag} {mg : Str → Option Value} {base : Heap}
theorem ok_look_at (T : Txt K mg) : Pk.Ok P w K mg base (L2N.CX P w) 1 (He.fAd K ("look_at", none)) ["name"] (sp_look_at K) := by
  obtain ⟨fd, F⟩ := T.F_look_at
  refine ⟨fd, F.ok sc_look_at ?len ?body, F.bindsN fun _ _ _ _ _ _ us hl => match us, hl with | [_], _ => rfl⟩
  case len => exact fun vs H Q E h => sp_look_at_len h
  intro cdv A outer s H vs Q E hr h
  have hu := hu_of hr
  have hu64 := hr.units
  have hu65 := Pk.units65 hr
  have tk0 : L2N.Takes (cxOf (L2N.CX P w) P w K mg base ["name", "sign"] "look_at" (defScope s_look_at) (He.fAd K ("look_at", none)) cdv A outer s H E) (fun cls d _ H => E cls d H) := L2N.takes_of rfl rfl rfl rfl
  refine ⟨_, (pss_cons (ps_if (pt_not (pt_chain op_le op_le pe_int (pe_callB call_len_str (by rfl) T.b_len Pk.bt_len (pa_cons (pv 0) pa_nil)) pe_int)) (pss_one (L2N.ps_raise rfl tk0 (L2N.pmk_own PySem.F.excBase_ValueError T.x_BadName T.g_BadName T.k_BadName (raises_own T.s_BadName T.t_BadName) rfl))) pss_nil)
      (pss_one (ps_for (passes_of rfl) rfl (pi_str (pv 0)) (pg_name (i := 1) sc_look_at.nd rfl (Or.inl rfl)) (pss_one (ps_if (pt_cmpR op_notIn_sign (pv 1) (pe_glob (v := V.str (Str.ofString "abcdefghijklmnopqrstuvwxyz0123456789")) rfl T.v_SIGNS.choose_spec ⟨_, rfl⟩) rfl) (pss_one (L2N.ps_raise rfl tk0 (L2N.pmk_own PySem.F.excBase_ValueError T.x_BadName T.g_BadName T.k_BadName (raises_own T.s_BadName T.t_BadName) rfl))) pss_nil))))), ?_⟩
  obtain ⟨s, rfl, hl, q1, q2⟩ := h
  wtm_at "go"
  refine Pk.rd_lenS (Pk.line_le (by omega)) ?_
  wtm_at "go"
  refine Pk.rd_dec (fun c1 => ?_) (fun c1 => ?_)
  rotate_left
  · wtm_at "go"
    exact q2 fun g => absurd g.lo (by omega)
  wtm_at "go"
  refine Pk.rd_ndec (fun c2 => ?_) (fun c2 => ?_)
  · wtm_at "go"
    exact q2 fun g => absurd g.hi (by omega)
  wtm_at "go"
  have l1 : 1 ≤ s.length := by omega
  have l2 : s.length ≤ 12 := by omega
  refine Pk.for_strW (fun i σ' H2 => H2 = H ∧ (∃ v, σ' = [some (.str s), v]) ∧ ∀ j c, j < i → s.cps[j]? = some c → c ∈ Pk.SG.cps.toList) ⟨rfl, ⟨_, rfl⟩, fun j c hj => absurd hj (Nat.not_lt_zero _)⟩ ?_ ?_
  · rintro i c σ' H2 hc ⟨rfl, ⟨v, rfl⟩, hg⟩
    wtm_at "go"
    refine ⟨c, _, rfl, rfl, ?_⟩
    wtm_at "go"
    refine Pk.rd_ndec (fun cn => ?_) (fun cy => ?_)
    · wtm_at "go"
      exact q2 fun g => cn (g.sg c (by rw [List.mem_iff_getElem?]; exact ⟨i, by rw [Array.getElem?_toList]; exact hc⟩))
    · wtm_at "go"
      refine ⟨rfl, ⟨_, rfl⟩, fun j d hj hd => ?_⟩
      by_cases e : j = i
      · subst e
        rw [hc] at hd
        cases hd
        exact cy
      · exact hg j d (by omega) hd
  · rintro σ' H2 ⟨rfl, ⟨v, rfl⟩, hg⟩
    wtm_at "go"
    refine q1 ⟨l1, l2, fun c hc => ?_⟩
    obtain ⟨j, hj⟩ := List.mem_iff_getElem?.mp hc
    rw [Array.getElem?_toList] at hj
    exact hg j c (Array.getElem?_eq_some_iff.mp hj).1 hj
end
end PkC
namespace PkC
open PySem PySem.Spec PyProof.Rows L2
theorem sc_puts_of : FnScope ["name", "row", "texts", "pairs", "stays", "pair", "puts", "upper", "k", "lower", "j"] ["name", "row", "texts", "pairs"] (defScope s_puts_of) := ⟨rfl, rfl, rfl, by decide +kernel, rfl, by decide +kernel, by decide +kernel⟩
/-- the one put: a first line, or one behind the first -/
def sp_puts_of (K : PySem.W.Frag) : Sp := fun vs H Q _ => ∃ (n f : Str) (rw_ tx pr : Addr) (ts : List Addr) (up : Bool), vs = [.str n, .ref rw_, .ref tx, .ref pr] ∧ ((up = false ∧ H rw_ = some (.lst []) ∧ SqL K H tx [.str f] ∧ H pr = some (.lst []) ∧ ts = []) ∨ (up = true ∧ ∃ t0 pp, H rw_ = some (.lst [.ref t0]) ∧ SqL K H tx [.str f, .str f] ∧ H pr = some (.lst [.ref pp]) ∧ H pp = some (.tup [.int 0, .int 0]) ∧ ts = [t0])) ∧ ∀ (p pt : Addr) (u : V) (H' : Hp), Pk.Ex H H' → H p = none → H' p = some (.lst [.ref pt]) → H' pt = some (.tup [.str f, u, .non]) → ((up = false ∧ u = .non) ∨ (up = true ∧ ∃ t0, ts = [t0] ∧ u = .ref t0)) → Q (.ref p) H'
theorem sp_puts_of_len {K : PySem.W.Frag} {vs : List V} {H : Hp} {Q : VK} {E : XK} (h : sp_puts_of K vs H Q E) : vs.length = 4 := by
  obtain ⟨_, _, _, _, _, _, _, rfl, _⟩ := h
  rfl
section
variable {P : Program} {w : World} {K : PySem.W.Frag} {mg : Str → Option Value} {base : Heap}
theorem ok_puts_of (T : Txt K mg) : Pk.Ok P w K mg base CX0 1 (He.fAd K ("puts_of", none)) ["name", "row", "texts", "pairs"] (sp_puts_of K) := by
  obtain ⟨fd, F⟩ := T.F_puts_of
  refine ⟨fd, F.ok sc_puts_of ?len ?body, F.bindsN fun _ _ _ _ _ _ us hl => match us, hl with | [_, _, _, _], _ => rfl⟩
  case len => exact fun vs H Q E h => sp_puts_of_len h
  intro cdv A outer s H vs Q E hr h
  have hu := hu_of hr
  have hu64 := hr.units
  have hu65 := Pk.units65 hr
  refine ⟨_, PSs.nox ((pss_cons (ps_set (i := 4) sc_puts_of.nd rfl (Or.inl rfl) pe_dnewK)
      (pss_cons (ps_for PassesOwn.never rfl (Pk.piL K (pv 3)) (pg_name (i := 5) sc_puts_of.nd rfl (Or.inl rfl)) (pss_one (ps_dput hu (pv 4) (pe_ix (Pk.ixT K) (pv 5) pe_int (fun _ _ => rfl)) (pe_ix (Pk.ixL K) (pv 1) (pe_ix (Pk.ixT K) (pv 5) pe_int (fun _ _ => rfl)) (fun _ _ => rfl)) rfl)))
      (pss_cons (ps_set (i := 6) sc_puts_of.nd rfl (Or.inl rfl) (pe_lst pa_nil))
      (pss_cons (ps_set (i := 7) sc_puts_of.nd rfl (Or.inl rfl) pe_non)
      (pss_cons (ps_for PassesOwn.never rfl (pi_range1 rfl T.b_range (pa_cons (pe_callB (Pk.lenK K) (by rfl) T.b_len Pk.bt_len (pa_cons (pv 2) pa_nil)) pa_nil)) (pg_name (i := 8) sc_puts_of.nd rfl (Or.inl rfl)) (pss_one (ps_if (pt_cmp (pc_din hu (pv 8) (pv 4))) (pss_one (ps_set (i := 7) sc_puts_of.nd rfl (Or.inl rfl) (pe_dget hu (pv 4) (pv 8) (fun _ _ => rfl)))) (pss_cons (ps_set (i := 9) sc_puts_of.nd rfl (Or.inl rfl) pe_non)
      (pss_cons (ps_for PassesOwn.never rfl (pi_revR rfl T.b_reversed (prg_2 rfl T.b_range (pv 8) (pe_callB (Pk.lenK K) (by rfl) T.b_len Pk.bt_len (pa_cons (pv 2) pa_nil)))) (pg_name (i := 10) sc_puts_of.nd rfl (Or.inl rfl)) (pss_one (ps_if (pt_cmp (pc_din hu (pv 10) (pv 4))) (pss_one (ps_set (i := 9) sc_puts_of.nd rfl (Or.inl rfl) (pe_dget hu (pv 4) (pv 10) (fun _ _ => rfl)))) pss_nil)))
      (pss_cons (ps_expr (pe_bm PySem.F.plainAttrs_list PySem.F.slot_list_append PySem.F.type_list_append mt_append (pv 6) (pa_cons (pe_tup (pa_cons (pe_ix (Pk.ixL K) (pv 2) (pv 8) (fun _ _ => rfl)) (pa_cons (pv 7) (pa_cons (pv 9) pa_nil)))) pa_nil)))
      (pss_one (ps_set (i := 7) sc_puts_of.nd rfl (Or.inl rfl) (pe_tup (pa_cons (pv 0) (pa_cons (pe_op op_sub (pe_callB (Pk.lenK K) (by rfl) T.b_len Pk.bt_len (pa_cons (pv 6) pa_nil)) pe_int) pa_nil)))))))))))
      (pss_one (ps_ret (pv 6))))))))), ?_⟩

  obtain ⟨n, f, rw_, tx, pr, ts, up, rfl, hc, q⟩ := h
  wtm_at "go"
  intro ps n_ps
  generalize q_ps : upd _ ps _ = H0
  have x_H0 := Pk.lay_ex n_ps q_ps
  have s_ps := Pk.lay_at q_ps
  clear q_ps
  wtm_at "go"
  rcases hc with ⟨rfl, h1, h2, h3, rfl⟩ | ⟨rfl, t0, pp, h1, h2, h3, h4, rfl⟩
  · have hpr := SqL.of (K := K) (x_H0 _ _ h3)
    refine ⟨⟨_, hpr⟩, Pk.for_none (Pk.stopL hpr) ?_⟩
    wtm_at "go"
    refine ⟨Nat.le_of_ble_eq_true rfl, fun pu n_pu => ?_⟩
    generalize q_pu : upd _ pu _ = H1
    have x_H1 := Pk.lay_ex n_pu q_pu
    have s_pu := Pk.lay_at q_pu
    clear q_pu
    wtm_at "go"
    have x01 := x_H0.trans x_H1
    have htx := x01.seqL h2
    have l1 : ([V.str f] : List V).length = 1 := rfl
    rw [l1]
    refine ⟨by omega, by omega, Pk.for_unr 1 (Pk.w_go (Pk.turnR (by omega) ?_))⟩
    wtm_at "go"
    refine ⟨ps, _, rfl, DGet.k (k := Sum.inl 0) (x_H1 _ _ s_ps), ?_⟩
    wtm_at "go"
    refine Pk.rd_F ?_
    wtm_at "go"
    refine ⟨_, _, rfl, rfl, ?_⟩
    try rw [l1]
    refine ⟨by omega, by omega, by omega, by omega, Pk.for_unr 1 (Pk.w_go (Pk.turnC (by omega) ?_))⟩
    wtm_at "go"
    refine ⟨ps, _, rfl, DGet.k (k := Sum.inl _) (x_H1 _ _ s_ps), ?_⟩
    wtm_at "go"
    refine Pk.rd_F ?_
    wtm_at "go"
    first | refine Pk.w_end (Pk.endC (by omega) ?_) | refine Pk.endC (by omega) ?_
    wtm_at "go"
    refine Pk.rd_ixL htx (Pk.at_nat (k := 0) rfl) ?_
    wtm_at "go"
    refine ⟨Nat.le_of_ble_eq_true rfl, fun pt n_pt => ?_⟩
    generalize q_pt : upd _ pt _ = H2
    have x_H2 := Pk.lay_ex n_pt q_pt
    have s_pt := Pk.lay_at q_pt
    clear q_pt
    wtm_at "go"
    refine Pk.rd_app (x_H2 _ _ s_pu) (Pk.line_lt (by decide)) ?_
    generalize q_H3 : upd _ pu _ = H3
    have s_H3 := Pk.lay_at q_H3
    have m_H3 := Pk.lay_mut q_H3
    clear q_H3
    wtm_at "go"
    have x03 : Pk.Ex H H3 := (x01.trans x_H2).mut2 (x_H0.back n_pu) m_H3
    refine ⟨Nat.le_of_ble_eq_true rfl, fun pv n_pv => ?_⟩
    generalize q_pv : upd _ pv _ = H4
    have x_H4 := Pk.lay_ex n_pv q_pv
    have s_pv := Pk.lay_at q_pv
    clear q_pv
    wtm_at "go"
    first | refine Pk.w_end (Pk.endR (by omega) ?_) | refine Pk.endR (by omega) ?_
    wtm_at "go"
    have nt : pt ≠ pu := by
      rintro rfl
      rw [s_pu] at n_pt
      cases n_pt
    exact q pu pt .non H4 (x03.trans x_H4) (x_H0.back n_pu) (x_H4 _ _ s_H3) (x_H4 _ _ (m_H3 _ _ nt s_pt)) (.inl ⟨rfl, rfl⟩)
  · have hpr := SqL.of (K := K) (x_H0 _ _ h3)
    refine ⟨⟨_, hpr⟩, Pk.for_unr 1 (Pk.w_go (Pk.turnL hpr (x := .ref pp) rfl ?_))⟩
    have hpp := SqT.of (K := K) (x_H0 _ _ h4)
    wtm_at "go"
    refine Pk.rd_ixT hpp (Pk.at_nat (k := 0) rfl) ?_
    refine Pk.rd_ixL (SqL.of (x_H0 _ _ h1)) (Pk.at_nat (k := 0) rfl) ?_
    wtm_at "go"
    refine Pk.rd_ixT hpp (Pk.at_nat (k := 1) rfl) ?_
    refine ⟨ps, _, rfl, DPut.k (k := Sum.inl 0) s_ps (Pk.line_lt (by decide)), ?_⟩
    generalize q_H1 : upd _ ps _ = H1
    have s_H1 := Pk.lay_at q_H1
    have m_H1 := Pk.lay_mut q_H1
    clear q_H1
    have g1 : H1 ps = some (.dK [((Sum.inl 0 : Key), V.ref t0)]) := s_H1
    have x1 : Pk.Ex H H1 := x_H0.mut2 n_ps m_H1
    wtm_at "go"
    refine Pk.w_end (Pk.endL (SqL.of (x1 _ _ h3)) (Nat.le_refl _) ?_)
    wtm_at "go"
    refine ⟨Nat.le_of_ble_eq_true rfl, fun pu n_pu => ?_⟩
    generalize q_pu : upd _ pu _ = H2
    have x_H2 := Pk.lay_ex n_pu q_pu
    have s_pu := Pk.lay_at q_pu
    clear q_pu
    wtm_at "go"
    have x02 := x1.trans x_H2
    have htx := x02.seqL h2
    have g2 := x_H2 _ _ g1
    have l2 : ([V.str f, V.str f] : List V).length = 2 := rfl
    rw [l2]
    refine ⟨by omega, by omega, Pk.for_unr 2 (Pk.w_go (Pk.turnR (by omega) ?_))⟩
    wtm_at "go"
    refine ⟨ps, _, rfl, DGet.k (k := Sum.inl 0) g2, ?_⟩
    wtm_at "go"
    refine Pk.rd_key (v := .ref t0) (valV_pos rfl) ?_
    wtm_at "go"
    refine ⟨ps, _, rfl, Pk.dgetK (k := Sum.inl 0) (v := .ref t0) g2 (valV_pos rfl), ?_⟩
    wtm_at "go"
    refine Pk.w_go (Pk.turnR (by omega) ?_)
    wtm_at "go"
    refine ⟨ps, _, rfl, DGet.k (k := Sum.inl 1) g2, ?_⟩
    wtm_at "go"
    refine Pk.rd_nokey (valV_neg (fun z => absurd (Sum.inl.inj z) (by decide))) ?_
    wtm_at "go"
    refine ⟨_, _, rfl, rfl, ?_⟩
    try rw [l2]
    refine ⟨by omega, by omega, by omega, by omega, Pk.for_unr 1 (Pk.w_go (Pk.turnC (by omega) ?_))⟩
    wtm_at "go"
    refine ⟨ps, _, rfl, DGet.k (k := Sum.inl _) g2, ?_⟩
    wtm_at "go"
    refine Pk.rd_nokey (valV_neg (fun z => absurd (Sum.inl.inj z) (by decide))) ?_
    wtm_at "go"
    first | refine Pk.w_end (Pk.endC (by omega) ?_) | refine Pk.endC (by omega) ?_
    wtm_at "go"
    refine Pk.rd_ixL htx (Pk.at_nat (k := 1) rfl) ?_
    wtm_at "go"
    refine ⟨Nat.le_of_ble_eq_true rfl, fun pt n_pt => ?_⟩
    generalize q_pt : upd _ pt _ = H3
    have x_H3 := Pk.lay_ex n_pt q_pt
    have s_pt := Pk.lay_at q_pt
    clear q_pt
    wtm_at "go"
    refine Pk.rd_app (x_H3 _ _ s_pu) (Pk.line_lt (by decide)) ?_
    generalize q_H4 : upd _ pu _ = H4
    have s_H4 := Pk.lay_at q_H4
    have m_H4 := Pk.lay_mut q_H4
    clear q_H4
    wtm_at "go"
    have x04 : Pk.Ex H H4 := (x02.trans x_H3).mut2 (x1.back n_pu) m_H4
    refine ⟨Nat.le_of_ble_eq_true rfl, fun pv n_pv => ?_⟩
    generalize q_pv : upd _ pv _ = H5
    have x_H5 := Pk.lay_ex n_pv q_pv
    have s_pv := Pk.lay_at q_pv
    clear q_pv
    wtm_at "go"
    first | refine Pk.w_end (Pk.endR (by omega) ?_) | refine Pk.endR (by omega) ?_
    wtm_at "go"
    have nt : pt ≠ pu := by
      rintro rfl
      rw [s_pu] at n_pt
      cases n_pt
    exact q pu pt (.ref t0) H5 (x04.trans x_H5) (x1.back n_pu) (x_H5 _ _ s_H4) (x_H5 _ _ (m_H4 _ _ nt s_pt)) (.inr ⟨rfl, t0, rfl, rfl⟩)
end
end PkC
namespace PkC
open PySem PySem.Spec PyProof.Rows L2
theorem sc_Desk_init__ : FnScope ["self"] ["self"] (defScope s_Desk_init__) := ⟨rfl, rfl, rfl, by decide +kernel, rfl, by decide +kernel, by decide +kernel⟩
/-- a desk without stores -/
def sp_Desk_init__ (K : PySem.W.Frag) : Sp := fun vs H Q _ => ∃ (a dx : Addr), vs = [.ref a] ∧ H a = some (.ins (He.ga K "Desk") dx []) ∧ ∀ (m h : Addr) (H' : Hp), (∀ b o, b ≠ a → H b = some o → H' b = some o) → H' a = some (.ins (He.ga K "Desk") dx [("made", .ref m), ("having", .ref h)]) → H' m = some (.dK []) → H' h = some (.dK []) → m ≠ h → H m = none → H h = none → Q .non H'
theorem sp_Desk_init___len {K : PySem.W.Frag} {vs : List V} {H : Hp} {Q : VK} {E : XK} (h : sp_Desk_init__ K vs H Q E) : vs.length = 1 := by
  obtain ⟨_, _, rfl, _⟩ := h
  rfl
section
variable {P : Program} {w : World} {K : PySem.W.Frag} {mg : Str → Option Value} {base : Heap}
theorem ok_Desk_init__ (T : Txt K mg) : Pk.Ok P w K mg base CX0 1 (He.fAd K ("Desk", some "__init__")) ["self"] (sp_Desk_init__ K) := by
  obtain ⟨fd, F⟩ := T.F_Desk_init__
  refine ⟨fd, F.ok sc_Desk_init__ ?len ?body, F.bindsN fun _ _ _ _ _ _ us hl => match us, hl with | [_], _ => rfl⟩
  case len => exact fun vs H Q E h => sp_Desk_init___len h
  intro cdv A outer s H vs Q E hr h
  have hu := hu_of hr
  have hu64 := hr.units
  have hu65 := Pk.units65 hr
  refine ⟨_, PSs.nox ((pss_cons (ps_fld (pv 0) pe_dnewK rfl)
      (pss_one (ps_fld (pv 0) pe_dnewK rfl)))), ?_⟩

  obtain ⟨a, dx, rfl, hi, q⟩ := h
  wtm_at "go"
  intro m n_m
  generalize q_m : upd _ m _ = H1
  have x_H1 := Pk.lay_ex n_m q_m
  have s_m := Pk.lay_at q_m
  clear q_m
  wtm_at "go"
  refine Pk.rd_sfldA (x_H1 _ _ hi) T.c_Desk T.n_Desk_made (by show _ < 1000; first | (show 0 < 1000; decide) | (show 1 < 1000; decide)) ?_
  generalize q_H2 : upd _ a _ = H2
  have s_H2 := Pk.lay_at q_H2
  have m_H2 := Pk.lay_mut q_H2
  clear q_H2
  wtm_at "go"
  intro h n_h
  generalize q_h : upd _ h _ = H3
  have x_H3 := Pk.lay_ex n_h q_h
  have s_h := Pk.lay_at q_h
  clear q_h
  wtm_at "go"
  refine Pk.rd_sfldA (x_H3 _ _ s_H2) T.c_Desk T.n_Desk_having (by show _ < 1000; first | (show 0 < 1000; decide) | (show 1 < 1000; decide)) ?_
  generalize q_H4 : upd _ a _ = H4
  have s_H4 := Pk.lay_at q_H4
  have m_H4 := Pk.lay_mut q_H4
  clear q_H4
  wtm_at "go"
  have nam : a ≠ m := by
    rintro rfl
    rw [hi] at n_m
    cases n_m
  have m2 : H2 m = some (.dK []) := m_H2 _ _ (Ne.symm nam) s_m
  have nah : a ≠ h := by
    rintro rfl
    rw [s_H2] at n_h
    cases n_h
  have nmh : m ≠ h := by
    rintro rfl
    rw [m2] at n_h
    cases n_h
  have nh0 : H h = none := by
    cases e : H h with
    | none => rfl
    | some o =>
      have z := m_H2 _ _ (Ne.symm nah) (x_H1 _ _ e)
      rw [n_h] at z
      cases z
  refine q m h H4 (fun b o hb ho => m_H4 _ _ hb (x_H3 _ _ (m_H2 _ _ hb (x_H1 _ _ ho)))) s_H4 (m_H4 _ _ (Ne.symm nam) (x_H3 _ _ m2)) (m_H4 _ _ (Ne.symm nah) s_h) nmh n_m nh0
end
end PkC
namespace PkC
open PySem PySem.Spec PyProof.Rows L2
theorem sc_Desk_look_for : FnScope ["self", "store"] ["self", "store"] (defScope s_Desk_look_for) := ⟨rfl, rfl, rfl, by decide +kernel, rfl, by decide +kernel, by decide +kernel⟩
/-- a store that is there -/
def sp_Desk_look_for (K : PySem.W.Frag) : Sp := fun vs H Q _ => ∃ (a m h b0 : Addr) (f0 : Str) (kvs : List (Key × V)) (ns : List Str) (kv0 : List (Key × V)) (L : List Pk.PR) (s : Str), vs = [.ref a, .str s] ∧ Pk.DeskF K H a m h b0 f0 kvs ns kv0 L ∧ s ∈ ns ∧ Q .non H
theorem sp_Desk_look_for_len {K : PySem.W.Frag} {vs : List V} {H : Hp} {Q : VK} {E : XK} (h : sp_Desk_look_for K vs H Q E) : vs.length = 2 := by
  obtain ⟨_, _, _, _, _, _, _, _, _, _, rfl, _⟩ := h
  rfl
section
variable {P : Program} {w : World} {K : PySem.W.Frag} {mg : Str → Option Value} {base : Heap}
theorem ok_Desk_look_for (T : Txt K mg) : Pk.Ok P w K mg base CX0 1 (He.fAd K ("Desk", some "look_for")) ["self", "store"] (sp_Desk_look_for K) := by
  obtain ⟨fd, F⟩ := T.F_Desk_look_for
  refine ⟨fd, F.ok sc_Desk_look_for ?len ?body, F.bindsN fun _ _ _ _ _ _ us hl => match us, hl with | [_, _], _ => rfl⟩
  case len => exact fun vs H Q E h => sp_Desk_look_for_len h
  intro cdv A outer s H vs Q E hr h
  have hu := hu_of hr
  have hu64 := hr.units
  have hu65 := Pk.units65 hr
  refine ⟨_, PSs.nox ((pss_one (ps_if (pt_cmp (pc_dnotin hu (pv 1) (Pk.fldK K (pv 0) rfl))) Pk.pss_never pss_nil))), ?_⟩

  obtain ⟨a, m, h, b0, f0, kvs, ns, kv0, L, s, rfl, d, hs, q⟩ := h
  obtain ⟨dx, hi⟩ := d.ins
  obtain ⟨b, hb, _⟩ := d.store hs
  wtm_at "go"
  refine Pk.rd_fldA hi T.c_Desk T.n_Desk_having rfl ?_
  refine ⟨h, _, rfl, DGet.k (k := Sum.inr s) d.hav, ?_⟩
  rw [hb]
  wtm_at "go"
  exact q
end
end PkC
namespace PkC
open PySem PySem.Spec PyProof.Rows L2
theorem sc_Desk_chosen : FnScope ["self", "store", "name"] ["self", "store"] (defScope s_Desk_chosen) := ⟨rfl, rfl, rfl, by decide +kernel, rfl, by decide +kernel, by decide +kernel⟩
/-- the patches of a store -/
def sp_Desk_chosen (K : PySem.W.Frag) : Sp := fun vs H Q _ => ∃ (a m h b0 : Addr) (f0 : Str) (kvs : List (Key × V)) (ns : List Str) (kv0 : List (Key × V)) (L : List Pk.PR) (s : Str), vs = [.ref a, .str s] ∧ Pk.DeskF K H a m h b0 f0 kvs ns kv0 L ∧ s ∈ ns ∧ ∀ (p : Addr) (L' : List Pk.PR) (H' : Hp), Pk.Ex H H' → ((s = f0 ∧ L' = L) ∨ (s ≠ f0 ∧ L' = [])) → H' p = some (.lst (L'.map fun r => V.ref r.ad)) → Q (.ref p) H'
theorem sp_Desk_chosen_len {K : PySem.W.Frag} {vs : List V} {H : Hp} {Q : VK} {E : XK} (h : sp_Desk_chosen K vs H Q E) : vs.length = 2 := by
  obtain ⟨_, _, _, _, _, _, _, _, _, _, rfl, _⟩ := h
  rfl
section
variable {P : Program} {w : World} {K : PySem.W.Frag} {mg : Str → Option Value} {base : Heap}
theorem ok_Desk_chosen (T : Txt K mg) : Pk.Ok P w K mg base CX0 1 (He.fAd K ("Desk", some "chosen")) ["self", "store"] (sp_Desk_chosen K) := by
  obtain ⟨fd, F⟩ := T.F_Desk_chosen
  refine ⟨fd, F.ok sc_Desk_chosen ?len ?body, F.bindsN fun _ _ _ _ _ _ us hl => match us, hl with | [_, _], _ => rfl⟩
  case len => exact fun vs H Q E h => sp_Desk_chosen_len h
  intro cdv A outer s H vs Q E hr h
  have hu := hu_of hr
  have hu64 := hr.units
  have hu65 := Pk.units65 hr
  refine ⟨_, PSs.nox ((pss_one (ps_ret (pe_lock (pe_lc (own := [("name", 2)]) (g := gName 2) rfl sc_Desk_chosen.nd (pi_keys (Pk.fldK K (pv 0) rfl)) (blkOk_by (own := [("name", 2)]) (N := ["self", "store", "name"]) (sc := defScope s_Desk_chosen) (by decide +kernel)) (fun _ _ _ _ _ => (pg_name (i := 2) sc_Desk_chosen.nd rfl (Or.inl rfl))) (fun _ _ _ _ _ => (pts_one (pt_cmp (pc_din hu (pv 2) (pe_dget hu (Pk.fldK K (pv 0) rfl) (pv 1) (fun _ _ => rfl)))))) (fun _ _ _ _ _ => (pe_dget hu (Pk.fldK K (pv 0) rfl) (pv 2) (fun _ _ => rfl)))))))), ?_⟩

  obtain ⟨a, m, h, b0, f0, kvs, ns, kv0, L, s, rfl, d, hs, q⟩ := h
  obtain ⟨dx, hi⟩ := d.ins
  obtain ⟨b, hb, nbm, nbh, hbb⟩ := d.store hs
  have nam : a ≠ m := by
    rintro rfl
    have z := d.made
    rw [hi] at z
    cases z
  have nhm : h ≠ m := Ne.symm d.dif.1
  wtm_at "go"
  have key : ∀ (bb : Bool) (L' : List Pk.PR), (∀ r ∈ L, ∃ kz, H b = some (.dK kz) ∧ (valV kz (Sum.inr r.nm)).isSome = bb) → L.filter (fun _ => bb) = L' → ((s = f0 ∧ L' = L) ∨ (s ≠ f0 ∧ L' = [])) →
      tLockE (tLc (iKeys (tFld K (tVar 0) "made")) (gName 2) (tB (tDIn (tVar 2) (tDGet (tFld K (tVar 0) "having") (tVar 1)))) (tDGet (tFld K (tVar 0) "made") (tVar 2)) (List.map (fun x => x.snd) [(("name" : Str), 2)]))
        (L2.start ["self", "store", "name"] [V.ref a, V.str s]) H Q := by
    intro bb L' hz hf hc
    refine Pk.lock_F L (fun r => Sum.inr r.nm) (fun r => V.ref r.ad) (fun _ => bb) (fun r => V.ref r.ad) d.made (by have := d.lL; omega) (fun _ => rfl) (fun od Q' q' => ?_) (fun r hr H' QT e1 e2 qt => ?_) (fun r hr _ H' Q' e1 e2 q' => ?_) (fun p hp => ?_)
    · wtm_at "go"
      refine Pk.rd_fldA ((upd_ne nam).trans hi) T.c_Desk T.n_Desk_made rfl ?_
      exact q'
    · obtain ⟨kz, z1, z2⟩ := hz r hr
      wtm_at "go"
      refine Pk.rd_fldA (e1 _ _ nam hi) T.c_Desk T.n_Desk_having rfl ?_
      wtm_at "go"
      refine ⟨h, _, rfl, Pk.dgetK (k := Sum.inr s) (v := .ref b) (e1 _ _ nhm d.hav) hb, ?_⟩
      refine ⟨b, _, rfl, DGet.k (k := Sum.inr r.nm) (e1 _ _ nbm z1), ?_⟩
      rw [z2]
      wtm_at "go"
      exact qt
    · obtain ⟨od, e3⟩ := e2
      wtm_at "go"
      refine Pk.rd_fldA (e1 _ _ nam hi) T.c_Desk T.n_Desk_made rfl ?_
      wtm_at "go"
      obtain ⟨r', hr', en, hv⟩ := Pk.made_pat (L := L) (n := r.nm) (List.mem_map.mpr ⟨r, hr, rfl⟩)
      have er : r'.ad = r.ad := by rw [Pk.same_of d.nd hr' hr en]
      refine ⟨m, _, rfl, .inl ⟨_, _, .inr ⟨od, e3⟩, rfl, hv.symm⟩, ?_⟩
      rw [er]
      exact q'
    · rw [hf]
      exact q p L' _ (Pk.Ex.new hp) hc upd_same
  rcases hbb with ⟨rfl, rfl, hb0⟩ | ⟨ns0, hb0⟩
  · exact key true L (fun r hr => ⟨kv0, hb0, d.own_in (List.mem_map.mpr ⟨r, hr, rfl⟩)⟩) (by simp) (.inl ⟨rfl, rfl⟩)
  · exact key false [] (fun r hr => ⟨[], hb0, rfl⟩) (by simp) (.inr ⟨ns0, rfl⟩)
end
end PkC
namespace PkC
open PySem PySem.Spec PyProof.Rows L2
theorem sc_Desk_fresh : FnScope ["self", "store", "patch", "file"] ["self", "store", "patch", "file"] (defScope s_Desk_fresh) := ⟨rfl, rfl, rfl, by decide +kernel, rfl, by decide +kernel, by decide +kernel⟩
/-- a new name, or one that is taken -/
def sp_Desk_fresh (K : PySem.W.Frag) : Sp := fun vs H Q E => ∃ (a m h b0 : Addr) (f0 : Str) (kvs : List (Key × V)) (ns : List Str) (kv0 : List (Key × V)) (L : List Pk.PR) (s n f : Str), vs = [.ref a, .str s, .str n, .str f] ∧ Pk.DeskF K H a m h b0 f0 kvs ns kv0 L ∧ s ∈ ns ∧ Pk.Good n ∧ Pk.Good f ∧ (n ∈ L.map Pk.PR.nm → E (.ref (He.ga K "NameTaken")) none H) ∧ (n ∉ L.map Pk.PR.nm → Q .non H)
theorem sp_Desk_fresh_len {K : PySem.W.Frag} {vs : List V} {H : Hp} {Q : VK} {E : XK} (h : sp_Desk_fresh K vs H Q E) : vs.length = 4 := by
  obtain ⟨_, _, _, _, _, _, _, _, _, _, _, _, rfl, _⟩ := h
  rfl
section
variable {P : Program} {w : World} {K : PySem.W.Frag} {mg : Str → Option Value} {base : Heap}
theorem ok_Desk_fresh (T : Txt K mg) : Pk.Ok P w K mg base (L2N.CX P w) 2 (He.fAd K ("Desk", some "fresh")) ["self", "store", "patch", "file"] (sp_Desk_fresh K) := by
  obtain ⟨fd, F⟩ := T.F_Desk_fresh
  obtain ⟨fd_Desk_look_for, G_Desk_look_for, B_Desk_look_for⟩ := (ok_Desk_look_for (P := P) (w := w) (base := base) T).ex
  obtain ⟨fd_look_at, G_look_at, B_look_at⟩ := (ok_look_at (P := P) (w := w) (base := base) T).ex
  refine ⟨fd, F.ok sc_Desk_fresh ?len ?body, F.bindsN fun _ _ _ _ _ _ us hl => match us, hl with | [_, _, _, _], _ => rfl⟩
  case len => exact fun vs H Q E h => sp_Desk_fresh_len h
  intro cdv A outer s H vs Q E hr h
  have hu := hu_of hr
  have hu64 := hr.units
  have hu65 := Pk.units65 hr
  have tk0 : L2N.Takes (cxOf (L2N.CX P w) P w K mg base ["self", "store", "patch", "file"] "Desk.fresh" (defScope s_Desk_fresh) (He.fAd K ("Desk", some "fresh")) cdv A outer s H E) (fun cls d _ H => E cls d H) := L2N.takes_of rfl rfl rfl rfl
  refine ⟨_, (pss_cons (ps_expr (pe_meth (pv 0) T.c_Desk T.m_Desk_look_for G_Desk_look_for (hr.mono (by decide)) B_Desk_look_for .nil pass0 (pa_cons (pv 1) pa_nil)))
      (pss_cons (ps_expr (pe_call G_look_at (hr.mono (by decide)) rfl T.g_look_at T.k_look_at B_look_at .nil (L2N.passes_call tk0 (fun _ _ _ _ z => z)) (pa_cons (pv 2) pa_nil)))
      (pss_cons (ps_expr (pe_call G_look_at (hr.mono (by decide)) rfl T.g_look_at T.k_look_at B_look_at .nil (L2N.passes_call tk0 (fun _ _ _ _ z => z)) (pa_cons (pv 3) pa_nil)))
      (pss_one (ps_if (pt_cmp (pc_din hu (pv 2) (Pk.fldK K (pv 0) rfl))) (pss_one (L2N.ps_raise rfl tk0 (L2N.pmk_own PySem.F.excBase_ValueError T.x_NameTaken T.g_NameTaken T.k_NameTaken (raises_own T.s_NameTaken T.t_NameTaken) rfl))) pss_nil))))), ?_⟩

  obtain ⟨a, m, h, b0, f0, kvs, ns, kv0, L, s, n, f, rfl, d, hs, gn, gf, q1, q2⟩ := h
  obtain ⟨dx, hi⟩ := d.ins
  wtm_at "go"
  refine Pk.rd_ins hi rfl ?_
  wtm_at "go"
  refine ⟨a, m, h, b0, f0, kvs, ns, kv0, L, s, rfl, d, hs, ?_⟩
  wtm_at "go"
  refine ⟨n, rfl, by have := gn.hi; omega, fun _ => ?_, fun z => absurd gn z⟩
  wtm_at "go"
  refine ⟨f, rfl, by have := gf.hi; omega, fun _ => ?_, fun z => absurd gf z⟩
  wtm_at "go"
  refine Pk.rd_fldA hi T.c_Desk T.n_Desk_made rfl ?_
  refine ⟨m, _, rfl, DGet.k (k := Sum.inr n) d.made, ?_⟩
  by_cases c : n ∈ L.map Pk.PR.nm
  · obtain ⟨r, _, _, hv⟩ := Pk.made_pat c
    wtm_at "go"
    refine Pk.rd_key hv ?_
    wtm_at "go"
    exact q1 c
  · wtm_at "go"
    refine Pk.rd_nokey (Pk.made_nopat c) ?_
    wtm_at "go"
    exact q2 c
end
end PkC
namespace PkC
open PySem PySem.Spec PyProof.Rows L2
theorem sc_Desk_keep : FnScope ["self", "store", "patch", "file", "puts", "cuts", "other", "direct", "put", "needs", "name", "line"] ["self", "store", "patch", "file", "puts", "cuts", "other"] (defScope s_Desk_keep) := ⟨rfl, rfl, rfl, by decide +kernel, rfl, by decide +kernel, by decide +kernel⟩
/-- a patch is kept -/
def sp_Desk_keep (K : PySem.W.Frag) : Sp := fun vs H Q _ => ∃ (a m h b0 : Addr) (f0 : Str) (kvs : List (Key × V)) (ns : List Str) (kv0 : List (Key × V)) (L : List Pk.PR) (n f : Str) (pu cu pt : Addr) (u : V) (up : Bool), vs = [.ref a, .str f0, .str n, .str f, .ref pu, .ref cu, .non] ∧ Pk.DeskF K H a m h b0 f0 kvs ns kv0 L ∧ n ∉ L.map Pk.PR.nm ∧ L.length < 20 ∧ H pu = some (.lst [.ref pt]) ∧ H pt = some (.tup [.str f, u, .non]) ∧ Pk.UpV H u f up ∧ H cu = some (.lst []) ∧ (up = true → (∃ x ∈ L, x.nm = f ∧ x.up = false) ∧ f ≠ n) ∧ (∀ ad g, Pk.Two g (Pk.ofF g (L ++ [⟨n, f, up, ad, pu, cu⟩]))) ∧ ∀ (ad : Addr) (kv1 : List (Key × V)) (H' : Hp), (∀ b o, b ≠ m → b ≠ b0 → H b = some o → H' b = some o) → Pk.DeskF K H' a m h b0 f0 kvs ns kv1 (L ++ [⟨n, f, up, ad, pu, cu⟩]) → Q .non H'
theorem sp_Desk_keep_len {K : PySem.W.Frag} {vs : List V} {H : Hp} {Q : VK} {E : XK} (h : sp_Desk_keep K vs H Q E) : vs.length = 7 := by
  obtain ⟨_, _, _, _, _, _, _, _, _, _, _, _, _, _, _, _, rfl, _⟩ := h
  rfl
section
variable {P : Program} {w : World} {K : PySem.W.Frag} {mg : Str → Option Value} {base : Heap}
theorem ok_Desk_keep (T : Txt K mg) : Pk.Ok P w K mg base CX0 3 (He.fAd K ("Desk", some "keep")) ["self", "store", "patch", "file", "puts", "cuts", "other"] (sp_Desk_keep K) := by
  obtain ⟨fd, F⟩ := T.F_Desk_keep
  obtain ⟨fd_Patch_init__, G_Patch_init__, B_Patch_init__⟩ := (ok_Patch_init__ (P := P) (w := w) (base := base) T).ex
  refine ⟨fd, F.ok sc_Desk_keep ?len ?body, F.bindsN fun _ _ _ _ _ _ us hl => match us, hl with | [_, _, _, _, _, _, _], _ => rfl⟩
  case len => exact fun vs H Q E h => sp_Desk_keep_len h
  intro cdv A outer s H vs Q E hr h
  have hu := hu_of hr
  have hu64 := hr.units
  have hu65 := Pk.units65 hr
  refine ⟨_, PSs.nox ((pss_cons (ps_setLc (i := 7) (own := [("line", 11)]) (g := gName 11) (tt := tYes) rfl sc_Desk_keep.nd rfl rfl (sw_true rfl rfl rfl (by decide +kernel)) (Pk.piL K (pv 5)) (blkOk_by (own := [("line", 11)]) (N := ["self", "store", "patch", "file", "puts", "cuts", "other", "direct", "put", "needs", "name", "line"]) (sc := defScope s_Desk_keep) (by decide +kernel)) (fun _ _ _ _ _ => (pg_name (i := 11) sc_Desk_keep.nd rfl (Or.inl rfl))) (fun _ _ _ _ _ => pts_nil) (fun _ _ _ _ _ => (pe_ix (Pk.ixT K) (pv 11) pe_int (fun _ _ => rfl))))
      (pss_cons (ps_for PassesOwn.never rfl (Pk.piL K (pv 4)) (pg_name (i := 8) sc_Desk_keep.nd rfl (Or.inl rfl)) (pss_one (ps_expr (pe_bm PySem.F.plainAttrs_list PySem.F.slot_list_extend PySem.F.type_list_extend mt_extend (pv 7) (pa_cons (pe_lc (own := [("line", 11)]) (g := gName 11) rfl sc_Desk_keep.nd (Pk.piT K (pe_slice (Pk.slT K) (pv 8) (po_some pe_int) po_none)) (blkOk_by (own := [("line", 11)]) (N := ["self", "store", "patch", "file", "puts", "cuts", "other", "direct", "put", "needs", "name", "line"]) (sc := defScope s_Desk_keep) (by decide +kernel)) (fun _ _ _ _ _ => (pg_name (i := 11) sc_Desk_keep.nd rfl (Or.inl rfl))) (fun _ _ _ _ _ => (pts_one (PW.pt (pw_and (pt_cmpR op_notN (pv 11) pe_non (nomark _)) (pw_and1 (pt_cmpR op_ne (pe_ix (Pk.ixT K) (pv 11) pe_int (fun _ _ => rfl)) (pv 2) (nomark _))))))) (fun _ _ _ _ _ => (pe_ix (Pk.ixT K) (pv 11) pe_int (fun _ _ => rfl)))) pa_nil)))))
      (Evl.pss_cut (ps_if (pt_cmpR op_notN (pv 6) pe_non (nomark _)) Pk.pss_never pss_nil)
      (pss_cons (ps_set (i := 9) sc_Desk_keep.nd rfl (Or.inl rfl) pe_dnewK)
      (pss_cons (ps_for PassesOwn.never rfl (Pk.piL K (pv 7)) (pg_name (i := 10) sc_Desk_keep.nd rfl (Or.inl rfl)) (pss_cons (ps_dput hu (pv 9) (pv 10) pe_bl rfl)
      (pss_one (ps_expr (pe_bm PySem.F.plainAttrs_dict PySem.F.slot_dict_update PySem.F.type_dict_update Pk.mt_upd (pv 9) (pa_cons (Pk.fldK K (pe_dget hu (Pk.fldK K (pv 0) rfl) (pv 10) (fun _ _ => rfl)) rfl) pa_nil))))))
      (pss_cons (ps_dput hu (Pk.fldK K (pv 0) rfl) (pv 2) (pe_make T.m_Patch G_Patch_init__ (hr.mono (by decide)) rfl T.g_Patch B_Patch_init__ .nil pass0 (pa_cons (pv 2) (pa_cons (pv 3) (pa_cons (pv 4) (pa_cons (pv 5) (pa_cons (pv 6) (pa_cons (pv 9) pa_nil))))))) rfl)
      (pss_one (ps_dput hu (pe_dget hu (Pk.fldK K (pv 0) rfl) (pv 1) (fun _ _ => rfl)) (pv 2) pe_bl rfl))))))))), ?_⟩

  obtain ⟨a, m, h, b0, f0, kvs, ns, kv0, L, n, f, pu, cu, pt, u, up, rfl, d, hn, hl, h1, h2, h3, h4, h5, h6, q⟩ := h
  obtain ⟨dx, hi⟩ := d.ins
  wtm_at "go"
  refine ⟨⟨_, SqL.of h4⟩, Pk.lc_none (fun p hp => Pk.stopL (SqL.of (Pk.Ex.new hp _ _ h4))) fun p0 n_p0 => ?_⟩
  generalize q_p0 : upd _ p0 _ = H0
  have x_H0 := Pk.lay_ex n_p0 q_p0
  have s_p0 := Pk.lay_at q_p0
  clear q_p0
  wtm_at "go"
  have hpu := SqL.of (K := K) (x_H0 _ _ h1)
  refine ⟨⟨_, hpu⟩, Pk.for_unr 1 (Pk.w_go (Pk.turnL hpu (x := .ref pt) rfl ?_))⟩
  wtm_at "go"
  refine ⟨pt, _, rfl, SqT.of (x_H0 _ _ h2), fun z => absurd z.1 (by show ¬ (HT.sIx 3 0 (some 1) = 0); decide), fun q1 n_q1 => ?_⟩
  have ec : cutV [V.str f, u, V.non] (some 1) none = [u, V.non] := by rfl
  rw [ec]
  generalize q_q1 : upd _ q1 _ = H1
  have x_H1 := Pk.lay_ex n_q1 q_q1
  have s_q1 := Pk.lay_at q_q1
  clear q_q1
  wtm_at "go"
  have hq1 := SqT.of (K := K) s_q1
  cases up with
  | false =>
    obtain rfl : u = .non := h3
    refine ⟨⟨_, hq1⟩, Pk.lc_unr 2 fun q2 n_q2 => ?_⟩
    generalize q_q2 : upd _ q2 _ = H2
    have x_H2 := Pk.lay_ex n_q2 q_q2
    have s_q2 := Pk.lay_at q_q2
    clear q_q2
    have n02 : p0 ≠ q2 := by
      rintro rfl
      rw [x_H1 _ _ s_p0] at n_q2
      cases n_q2
    refine Pk.lw_go (Pk.turnT (x_H2.seqT hq1) (x := .non) rfl ?_)
    wtm_at "go"
    refine ⟨rfl, ?_⟩
    wtm_at "go"
    refine Pk.rd_nyes rfl ?_
    wtm_at "go"
    refine Pk.lw_go (Pk.turnT (x_H2.seqT hq1) (x := .non) rfl ?_)
    wtm_at "go"
    refine ⟨rfl, ?_⟩
    wtm_at "go"
    refine Pk.rd_nyes rfl ?_
    wtm_at "go"
    first | refine Pk.lw_end (Pk.endT (x_H2.seqT hq1) (Nat.le_refl _) ?_) | refine Pk.endT (x_H2.seqT hq1) (Nat.le_refl _) ?_
    wtm_at "go"
    refine ⟨p0, q2, [], _, rfl, rfl, x_H2 _ _ (x_H1 _ _ s_p0), (show H2 q2 = some (.lst []) from s_q2), by first | decide | (show 1 ≤ sizeLine; rw [sizeLine_eq]; decide), ?_⟩
    generalize q_H4 : upd _ p0 _ = H4
    have s_H4 := Pk.lay_at q_H4
    have m_H4 := Pk.lay_mut q_H4
    clear q_H4
    have e4 : Pk.Ex H H4 := (x_H0.trans (x_H1.trans x_H2)).mut2 n_p0 m_H4
    wtm_at "go"
    refine Pk.w_end (Pk.endL (SqL.of (e4 _ _ h1)) (Nat.le_refl _) ?_)
    wtm_at "go"
    refine Pk.rd_cut (fun σ' H' => H' = H4 ∧ σ' = [some (.ref a), some (.str f0), some (.str n), some (.str f), some (.ref pu), some (.ref cu), some .non, some (.ref p0), some (.ref pt), none, none, none]) ?_ ?_
    · wtm_at "go"
      refine Pk.rd_nyes rfl ?_
      wtm_at "go"
      exact ⟨rfl, rfl⟩
    rintro σ' H' ⟨rfl, rfl⟩
    wtm_at "go"
    intro nd n_nd
    generalize q_nd : upd _ nd _ = H5
    have x_H5 := Pk.lay_ex n_nd q_nd
    have s_nd := Pk.lay_at q_nd
    clear q_nd
    wtm_at "go"
    have e5 : Pk.Ex H H5 := e4.trans x_H5
    have p05 := SqL.of (K := K) (show H5 p0 = some (.lst []) from x_H5 _ _ s_H4)
    refine ⟨⟨_, p05⟩, Pk.for_none (Pk.stopL p05) ?_⟩
    obtain ⟨H6, e56, g6, g6l⟩ : ∃ H6, H6 = H5 ∧ H6 nd = some (.dK []) ∧ ([] : List (Key × V)).length ≤ 100 + false.toNat := ⟨H5, rfl, s_nd, by decide⟩
    subst e56
    have e6 : Pk.Ex H H6 := e5
    have d6 := d.ex e6
    obtain ⟨dx6, i6⟩ := d6.ins
    wtm_at "go"
    intro x dxx n_x n_dxx ndx
    generalize q_H7 : upd (upd H6 dxx (HO.own x)) x _ = H7
    have i7 : H7 x = some (.ins (He.ga K "Patch") dxx []) := Pk.lay_at q_H7
    have x_H7 : Pk.Ex H6 H7 := by
      rw [← q_H7]
      exact (Pk.Ex.new n_dxx).mut n_x
    clear q_H7
    refine ⟨x, dxx, _, _, _, _, _, _, rfl, i7, ?_⟩
    generalize q_H8 : upd _ x _ = H8
    have s_H8 := Pk.lay_at q_H8
    have m_H8 := Pk.lay_mut q_H8
    clear q_H8
    have e68 : Pk.Ex H6 H8 := x_H7.mut2 n_x m_H8
    refine ⟨rfl, ?_⟩
    wtm_at "go"
    have d8 := d6.ex e68
    obtain ⟨dx8, i8⟩ := d8.ins
    refine Pk.rd_fldA i8 T.c_Desk T.n_Desk_made rfl ?_
    wtm_at "go"
    refine ⟨m, _, rfl, DPut.k (k := Sum.inr n) d8.made (by unfold Pk.madeK; rw [List.length_map]; exact Pk.line_lt (by omega)), ?_⟩
    generalize q_H9 : upd _ m _ = H9
    have s_H9 := Pk.lay_at q_H9
    have m_H9 := Pk.lay_mut q_H9
    clear q_H9
    wtm_at "go"
    have nm : a ≠ m := by
      rintro rfl
      rw [d8.made] at i8
      cases i8
    refine Pk.rd_fldA (m_H9 _ _ nm i8) T.c_Desk T.n_Desk_having rfl ?_
    wtm_at "go"
    obtain ⟨b, vb, nbm, nbh, hb⟩ := d8.store d8.nf
    have eb : b = b0 := by
      rcases hb with ⟨_, e, _⟩ | ⟨z, _⟩
      · exact e
      · exact absurd rfl z
    subst eb
    refine ⟨h, _, rfl, Pk.dgetK (k := Sum.inr f0) (v := .ref b) (m_H9 _ _ (Ne.symm d8.dif.1) d8.hav) vb, ?_⟩
    wtm_at "go"
    refine ⟨b, _, rfl, DPut.k (k := Sum.inr n) (m_H9 _ _ nbm d8.own) (by rw [d8.olen]; exact Pk.line_lt (by omega)), ?_⟩
    generalize q_H10 : upd _ b _ = H10
    have s_H10 := Pk.lay_at q_H10
    have m_H10 := Pk.lay_mut q_H10
    clear q_H10
    wtm_at "go"
    have e8 : Pk.Ex H H8 := e6.trans e68
    have P8 : Pk.PatAt K H8 ⟨n, f, false, x, pu, cu⟩ := ⟨⟨dxx, nd, _, s_H8, e68 _ _ g6, g6l⟩, ⟨pt, _, e8 _ _ h1, e8 _ _ h2, rfl⟩, e8 _ _ h4⟩
    refine q x (putK kv0 (Sum.inr n) (.bl true)) H10 (fun c o hc1 hc2 ho => m_H10 _ _ hc2 (m_H9 _ _ hc1 (e8 _ _ ho))) ?_
    exact d8.record (r := ⟨n, f, false, x, pu, cu⟩) hn hl P8 (fun g => h6 x g) m_H9 s_H9 m_H10 s_H10
  | true =>
    obtain ⟨ut, rfl, hut⟩ := h3
    refine ⟨⟨_, hq1⟩, Pk.lc_unr 2 fun q2 n_q2 => ?_⟩
    generalize q_q2 : upd _ q2 _ = H2
    have x_H2 := Pk.lay_ex n_q2 q_q2
    have s_q2 := Pk.lay_at q_q2
    clear q_q2
    have n02 : p0 ≠ q2 := by
      rintro rfl
      rw [x_H1 _ _ s_p0] at n_q2
      cases n_q2
    refine Pk.lw_go (Pk.turnT (x_H2.seqT hq1) (x := .ref ut) rfl ?_)
    wtm_at "go"
    refine ⟨rfl, ?_⟩
    wtm_at "go"
    have e2 := x_H0.trans (x_H1.trans x_H2)
    refine Pk.rd_nno (fun z => nomatch z) ?_
    wtm_at "go"
    refine Pk.rd_ixT (SqT.of (e2 _ _ hut)) (Pk.at_nat (k := 0) rfl) ?_
    wtm_at "go"
    refine Pk.rd_nno (h5 rfl).2 ?_
    wtm_at "go"
    refine Pk.rd_ixT (SqT.of (e2 _ _ hut)) (Pk.at_nat (k := 0) rfl) ?_
    refine ⟨[], s_q2, Pk.line_lt (by decide), ?_⟩
    generalize q_H3 : upd _ q2 _ = H3
    have s_H3 := Pk.lay_at q_H3
    have m_H3 := Pk.lay_mut q_H3
    clear q_H3
    have x13 : Pk.Ex H1 H3 := x_H2.mut2 n_q2 m_H3
    refine Pk.lw_go (Pk.turnT (x13.seqT hq1) (x := .non) rfl ?_)
    wtm_at "go"
    refine ⟨rfl, ?_⟩
    wtm_at "go"
    refine Pk.rd_nyes rfl ?_
    wtm_at "go"
    first | refine Pk.lw_end (Pk.endT (x13.seqT hq1) (Nat.le_refl _) ?_) | refine Pk.endT (x13.seqT hq1) (Nat.le_refl _) ?_
    wtm_at "go"
    refine ⟨p0, q2, [], _, rfl, rfl, x13 _ _ (x_H1 _ _ s_p0), (show H3 q2 = some (.lst [V.str f]) from s_H3), by first | decide | (show 1 ≤ sizeLine; rw [sizeLine_eq]; decide), ?_⟩
    generalize q_H4 : upd _ p0 _ = H4
    have s_H4 := Pk.lay_at q_H4
    have m_H4 := Pk.lay_mut q_H4
    clear q_H4
    have e4 : Pk.Ex H H4 := (x_H0.trans (x_H1.trans x13)).mut2 n_p0 m_H4
    wtm_at "go"
    refine Pk.w_end (Pk.endL (SqL.of (e4 _ _ h1)) (Nat.le_refl _) ?_)
    wtm_at "go"
    refine Pk.rd_cut (fun σ' H' => H' = H4 ∧ σ' = [some (.ref a), some (.str f0), some (.str n), some (.str f), some (.ref pu), some (.ref cu), some .non, some (.ref p0), some (.ref pt), none, none, none]) ?_ ?_
    · wtm_at "go"
      refine Pk.rd_nyes rfl ?_
      wtm_at "go"
      exact ⟨rfl, rfl⟩
    rintro σ' H' ⟨rfl, rfl⟩
    wtm_at "go"
    intro nd n_nd
    generalize q_nd : upd _ nd _ = H5
    have x_H5 := Pk.lay_ex n_nd q_nd
    have s_nd := Pk.lay_at q_nd
    clear q_nd
    wtm_at "go"
    have e5 : Pk.Ex H H5 := e4.trans x_H5
    have p05 := SqL.of (K := K) (show H5 p0 = some (.lst [V.str f]) from x_H5 _ _ s_H4)
    refine ⟨⟨_, p05⟩, Pk.for_unr 1 (Pk.w_go (Pk.turnL p05 (x := .str f) rfl ?_))⟩
    wtm_at "go"
    refine ⟨nd, _, rfl, DPut.k (k := Sum.inr f) s_nd (Pk.line_lt (by decide)), ?_⟩
    generalize q_H5a : upd _ nd _ = H5a
    have s_H5a := Pk.lay_at q_H5a
    have m_H5a := Pk.lay_mut q_H5a
    clear q_H5a
    wtm_at "go"
    refine Pk.rd_tyD s_H5a ?_
    wtm_at "go"
    have e5a : Pk.Ex H H5a := e5.mut2 (e4.back n_nd) m_H5a
    have da := d.ex e5a
    obtain ⟨dxa, ia⟩ := da.ins
    refine Pk.rd_fldA ia T.c_Desk T.n_Desk_made rfl ?_
    wtm_at "go"
    obtain ⟨⟨xx, hxx, exx, uxx⟩, _⟩ := h5 rfl
    obtain ⟨r, hr, er, hv⟩ := Pk.made_pat (L := L) (n := f) (List.mem_map.mpr ⟨xx, hxx, exx⟩)
    have rx : r = xx := Pk.same_of d.nd hr hxx (er.trans exx.symm)
    refine ⟨m, _, rfl, Pk.dgetK (k := Sum.inr f) (v := .ref r.ad) da.made hv, ?_⟩
    obtain ⟨dxr, ndr, kvr, o1, o2, o3⟩ := (da.pats r hr).obj
    refine Pk.rd_fldA o1 T.c_Patch T.n_Patch_needs rfl ?_
    wtm_at "go"
    have nn : nd ≠ ndr := by
      rintro rfl
      obtain ⟨dxq, ndq, kvq, w1, w2, w3⟩ := (d.pats r hr).obj
      have z := e5a _ _ w1
      rw [o1] at z
      cases z
      have y := e4.back n_nd
      rw [w2] at y
      cases y
    refine ⟨nd, ndr, _, _, rfl, rfl, nn, s_H5a, o2, by show 1 + kvr.length ≤ sizeLine; exact Pk.line_le (by have y : r.up.toNat ≤ 1 := Bool.toNat_le r.up; omega), ?_⟩
    generalize q_H6 : upd _ nd _ = H6
    have s_H6 := Pk.lay_at q_H6
    have m_H6 := Pk.lay_mut q_H6
    clear q_H6
    wtm_at "go"
    have e6 : Pk.Ex H H6 := e5a.mut2 (e4.back n_nd) m_H6
    have nd0 : p0 ≠ nd := by
      rintro rfl
      rw [s_H4] at n_nd
      cases n_nd
    have p06 : H6 p0 = some (.lst [V.str f]) := m_H6 _ _ nd0 (m_H5a _ _ nd0 (x_H5 _ _ s_H4))
    refine Pk.w_end (Pk.endL (SqL.of p06) (Nat.le_refl _) ?_)
    have g6 := s_H6
    have g6l : (mergeK (putK ([] : List (Key × V)) (Sum.inr f) (V.bl true)) kvr).length ≤ 100 + true.toNat := by
      have z := length_mergeK kvr (putK ([] : List (Key × V)) (Sum.inr f) (V.bl true))
      have y : (putK ([] : List (Key × V)) (Sum.inr f) (V.bl true)).length = 1 := rfl
      have w : kvr.length ≤ 100 := by
        rw [rx, uxx] at o3
        exact o3
      show _ ≤ 101
      omega
    have d6 := d.ex e6
    obtain ⟨dx6, i6⟩ := d6.ins
    wtm_at "go"
    intro x dxx n_x n_dxx ndx
    generalize q_H7 : upd (upd H6 dxx (HO.own x)) x _ = H7
    have i7 : H7 x = some (.ins (He.ga K "Patch") dxx []) := Pk.lay_at q_H7
    have x_H7 : Pk.Ex H6 H7 := by
      rw [← q_H7]
      exact (Pk.Ex.new n_dxx).mut n_x
    clear q_H7
    refine ⟨x, dxx, _, _, _, _, _, _, rfl, i7, ?_⟩
    generalize q_H8 : upd _ x _ = H8
    have s_H8 := Pk.lay_at q_H8
    have m_H8 := Pk.lay_mut q_H8
    clear q_H8
    have e68 : Pk.Ex H6 H8 := x_H7.mut2 n_x m_H8
    refine ⟨rfl, ?_⟩
    wtm_at "go"
    have d8 := d6.ex e68
    obtain ⟨dx8, i8⟩ := d8.ins
    refine Pk.rd_fldA i8 T.c_Desk T.n_Desk_made rfl ?_
    wtm_at "go"
    refine ⟨m, _, rfl, DPut.k (k := Sum.inr n) d8.made (by unfold Pk.madeK; rw [List.length_map]; exact Pk.line_lt (by omega)), ?_⟩
    generalize q_H9 : upd _ m _ = H9
    have s_H9 := Pk.lay_at q_H9
    have m_H9 := Pk.lay_mut q_H9
    clear q_H9
    wtm_at "go"
    have nm : a ≠ m := by
      rintro rfl
      rw [d8.made] at i8
      cases i8
    refine Pk.rd_fldA (m_H9 _ _ nm i8) T.c_Desk T.n_Desk_having rfl ?_
    wtm_at "go"
    obtain ⟨b, vb, nbm, nbh, hb⟩ := d8.store d8.nf
    have eb : b = b0 := by
      rcases hb with ⟨_, e, _⟩ | ⟨z, _⟩
      · exact e
      · exact absurd rfl z
    subst eb
    refine ⟨h, _, rfl, Pk.dgetK (k := Sum.inr f0) (v := .ref b) (m_H9 _ _ (Ne.symm d8.dif.1) d8.hav) vb, ?_⟩
    wtm_at "go"
    refine ⟨b, _, rfl, DPut.k (k := Sum.inr n) (m_H9 _ _ nbm d8.own) (by rw [d8.olen]; exact Pk.line_lt (by omega)), ?_⟩
    generalize q_H10 : upd _ b _ = H10
    have s_H10 := Pk.lay_at q_H10
    have m_H10 := Pk.lay_mut q_H10
    clear q_H10
    wtm_at "go"
    have e8 : Pk.Ex H H8 := e6.trans e68
    have P8 : Pk.PatAt K H8 ⟨n, f, true, x, pu, cu⟩ := ⟨⟨dxx, nd, _, s_H8, e68 _ _ g6, g6l⟩, ⟨pt, _, e8 _ _ h1, e8 _ _ h2, ⟨ut, rfl, e8 _ _ hut⟩⟩, e8 _ _ h4⟩
    refine q x (putK kv0 (Sum.inr n) (.bl true)) H10 (fun c o hc1 hc2 ho => m_H10 _ _ hc2 (m_H9 _ _ hc1 (e8 _ _ ho))) ?_
    exact d8.record (r := ⟨n, f, true, x, pu, cu⟩) hn hl P8 (fun g => h6 x g) m_H9 s_H9 m_H10 s_H10
end
end PkC
namespace PkC
open PySem PySem.Spec PyProof.Rows L2
theorem sc_Desk_begin : FnScope ["self", "store"] ["self", "store"] (defScope s_Desk_begin) := ⟨rfl, rfl, rfl, by decide +kernel, rfl, by decide +kernel, by decide +kernel⟩
/-- a store begins, or a taken name is told -/
def sp_Desk_begin (K : PySem.W.Frag) : Sp := fun vs H Q E => ∃ (a m h dx : Addr) (kvs : List (Key × V)) (s : Str), vs = [.ref a, .str s] ∧ H a = some (.ins (He.ga K "Desk") dx [("made", .ref m), ("having", .ref h)]) ∧ H h = some (.dK kvs) ∧ kvs.length ≤ 100 ∧ Pk.Good s ∧ ((valV kvs (Sum.inr s)).isSome = true → E (.ref (He.ga K "NameTaken")) none H) ∧ (valV kvs (Sum.inr s) = none → ∀ b H1 H2, H b = none → Pk.Ex H H1 → H1 b = some (.dK []) → (∀ c o, c ≠ h → H1 c = some o → H2 c = some o) → H2 h = some (.dK (putK kvs (Sum.inr s) (.ref b))) → Q .non H2)
theorem sp_Desk_begin_len {K : PySem.W.Frag} {vs : List V} {H : Hp} {Q : VK} {E : XK} (h : sp_Desk_begin K vs H Q E) : vs.length = 2 := by
  obtain ⟨_, _, _, _, _, _, rfl, _⟩ := h
  rfl
section
variable {P : Program} {w : World} {K : PySem.W.Frag} {mg : Str → Option Value} {base : Heap}
theorem ok_Desk_begin (T : Txt K mg) : Pk.Ok P w K mg base (L2N.CX P w) 2 (He.fAd K ("Desk", some "begin")) ["self", "store"] (sp_Desk_begin K) := by
  obtain ⟨fd, F⟩ := T.F_Desk_begin
  obtain ⟨fd_look_at, G_look_at, B_look_at⟩ := (ok_look_at (P := P) (w := w) (base := base) T).ex
  refine ⟨fd, F.ok sc_Desk_begin ?len ?body, F.bindsN fun _ _ _ _ _ _ us hl => match us, hl with | [_, _], _ => rfl⟩
  case len => exact fun vs H Q E h => sp_Desk_begin_len h
  intro cdv A outer s H vs Q E hr h
  have hu := hu_of hr
  have hu64 := hr.units
  have hu65 := Pk.units65 hr
  have tk0 : L2N.Takes (cxOf (L2N.CX P w) P w K mg base ["self", "store"] "Desk.begin" (defScope s_Desk_begin) (He.fAd K ("Desk", some "begin")) cdv A outer s H E) (fun cls d _ H => E cls d H) := L2N.takes_of rfl rfl rfl rfl
  refine ⟨_, (pss_cons (ps_expr (pe_call G_look_at (hr.mono (by decide)) rfl T.g_look_at T.k_look_at B_look_at .nil (L2N.passes_call tk0 (fun _ _ _ _ z => z)) (pa_cons (pv 1) pa_nil)))
      (pss_cons (ps_if (pt_cmp (pc_din hu (pv 1) (Pk.fldK K (pv 0) rfl))) (pss_one (L2N.ps_raise rfl tk0 (L2N.pmk_own PySem.F.excBase_ValueError T.x_NameTaken T.g_NameTaken T.k_NameTaken (raises_own T.s_NameTaken T.t_NameTaken) rfl))) pss_nil)
      (pss_one (ps_dput hu (Pk.fldK K (pv 0) rfl) (pv 1) pe_dnewK rfl)))), ?_⟩

  obtain ⟨a, m, h, dx, kvs, s, rfl, hi, hv, hl, g, q2, q3⟩ := h
  wtm_at "go"
  refine ⟨s, rfl, by have := g.hi; omega, fun _ => ?_, fun n => absurd g n⟩
  wtm_at "go"
  refine Pk.rd_fldA hi T.c_Desk T.n_Desk_having rfl ?_
  refine ⟨h, _, rfl, DGet.k (k := Sum.inr s) hv, ?_⟩
  cases e : valV kvs (Sum.inr s : Key) with
  | some v =>
    wtm_at "go"
    exact q2 (by rw [e]; rfl)
  | none =>
    wtm_at "go"
    intro b n_b
    generalize q_b : upd _ b _ = H1
    have x_H1 := Pk.lay_ex n_b q_b
    have s_b := Pk.lay_at q_b
    clear q_b
    wtm_at "go"
    refine Pk.rd_fldA (x_H1 _ _ hi) T.c_Desk T.n_Desk_having rfl ?_
    wtm_at "go"
    refine ⟨h, _, rfl, DPut.k (k := Sum.inr s) (x_H1 _ _ hv) (Pk.line_lt (by omega)), ?_⟩
    generalize q_H2 : upd _ h _ = H2
    have s_H2 := Pk.lay_at q_H2
    have m_H2 := Pk.lay_mut q_H2
    clear q_H2
    wtm_at "go"
    exact q3 e b H1 H2 n_b x_H1 s_b m_H2 s_H2
end
end PkC
namespace PkC
open PySem PySem.Spec PyProof.Rows L2
theorem sc_Desk_stores : FnScope ["self"] ["self"] (defScope s_Desk_stores) := ⟨rfl, rfl, rfl, by decide +kernel, rfl, by decide +kernel, by decide +kernel⟩
/-- the names -/
def sp_Desk_stores (K : PySem.W.Frag) : Sp := fun vs H Q _ => ∃ (a m h b0 : Addr) (f0 : Str) (kvs : List (Key × V)) (ns : List Str) (kv0 : List (Key × V)) (L : List Pk.PR), vs = [.ref a] ∧ Pk.DeskF K H a m h b0 f0 kvs ns kv0 L ∧ ∀ (p : Addr), H p = none → Q (.ref p) (upd H p (.lst (ns.map V.str)))
theorem sp_Desk_stores_len {K : PySem.W.Frag} {vs : List V} {H : Hp} {Q : VK} {E : XK} (h : sp_Desk_stores K vs H Q E) : vs.length = 1 := by
  obtain ⟨_, _, _, _, _, _, _, _, _, rfl, _⟩ := h
  rfl
section
variable {P : Program} {w : World} {K : PySem.W.Frag} {mg : Str → Option Value} {base : Heap}
theorem ok_Desk_stores (T : Txt K mg) : Pk.Ok P w K mg base CX0 1 (He.fAd K ("Desk", some "stores")) ["self"] (sp_Desk_stores K) := by
  obtain ⟨fd, F⟩ := T.F_Desk_stores
  refine ⟨fd, F.ok sc_Desk_stores ?len ?body, F.bindsN fun _ _ _ _ _ _ us hl => match us, hl with | [_], _ => rfl⟩
  case len => exact fun vs H Q E h => sp_Desk_stores_len h
  intro cdv A outer s H vs Q E hr h
  have hu := hu_of hr
  have hu64 := hr.units
  have hu65 := Pk.units65 hr
  refine ⟨_, PSs.nox ((pss_one (ps_ret (pe_callTy (call_listD rfl) (by rfl) T.b_list Pk.bt_list (pa_cons (Pk.fldK K (pv 0) rfl) pa_nil))))), ?_⟩

  obtain ⟨a, m, h, b0, f0, kvs, ns, kv0, L, rfl, d, q⟩ := h
  obtain ⟨dx, hi⟩ := d.ins
  wtm_at "go"
  refine Pk.rd_fldA hi T.c_Desk T.n_Desk_having rfl ?_
  wtm_at "go"
  refine ⟨h, kvs, rfl, .inl d.hav, fun p hp => ?_⟩
  rw [d.names]
  exact q p hp
end
end PkC
namespace PkC
open PySem PySem.Spec PyProof.Rows L2
theorem sc_Desk_patches : FnScope ["self"] ["self"] (defScope s_Desk_patches) := ⟨rfl, rfl, rfl, by decide +kernel, rfl, by decide +kernel, by decide +kernel⟩
/-- the names -/
def sp_Desk_patches (K : PySem.W.Frag) : Sp := fun vs H Q _ => ∃ (a m h b0 : Addr) (f0 : Str) (kvs : List (Key × V)) (ns : List Str) (kv0 : List (Key × V)) (L : List Pk.PR), vs = [.ref a] ∧ Pk.DeskF K H a m h b0 f0 kvs ns kv0 L ∧ ∀ (p : Addr), H p = none → Q (.ref p) (upd H p (.lst ((L.map Pk.PR.nm).map V.str)))
theorem sp_Desk_patches_len {K : PySem.W.Frag} {vs : List V} {H : Hp} {Q : VK} {E : XK} (h : sp_Desk_patches K vs H Q E) : vs.length = 1 := by
  obtain ⟨_, _, _, _, _, _, _, _, _, rfl, _⟩ := h
  rfl
section
variable {P : Program} {w : World} {K : PySem.W.Frag} {mg : Str → Option Value} {base : Heap}
theorem ok_Desk_patches (T : Txt K mg) : Pk.Ok P w K mg base CX0 1 (He.fAd K ("Desk", some "patches")) ["self"] (sp_Desk_patches K) := by
  obtain ⟨fd, F⟩ := T.F_Desk_patches
  refine ⟨fd, F.ok sc_Desk_patches ?len ?body, F.bindsN fun _ _ _ _ _ _ us hl => match us, hl with | [_], _ => rfl⟩
  case len => exact fun vs H Q E h => sp_Desk_patches_len h
  intro cdv A outer s H vs Q E hr h
  have hu := hu_of hr
  have hu64 := hr.units
  have hu65 := Pk.units65 hr
  refine ⟨_, PSs.nox ((pss_one (ps_ret (pe_callTy (call_listD rfl) (by rfl) T.b_list Pk.bt_list (pa_cons (Pk.fldK K (pv 0) rfl) pa_nil))))), ?_⟩

  obtain ⟨a, m, h, b0, f0, kvs, ns, kv0, L, rfl, d, q⟩ := h
  obtain ⟨dx, hi⟩ := d.ins
  wtm_at "go"
  refine Pk.rd_fldA hi T.c_Desk T.n_Desk_made rfl ?_
  wtm_at "go"
  refine ⟨m, _, rfl, .inl d.made, fun p hp => ?_⟩
  have e : (Pk.madeK L).map (fun kv => kV kv.1) = (L.map Pk.PR.nm).map V.str := by
    unfold Pk.madeK
    rw [List.map_map, List.map_map]
    rfl
  rw [e]
  exact q p hp
end
end PkC
namespace PkC
open PySem PySem.Spec PyProof.Rows L2
theorem sc_Desk_row : FnScope ["self", "store", "file", "patches", "texts", "line", "name"] ["self", "store", "file"] (defScope s_Desk_row) := ⟨rfl, rfl, rfl, by decide +kernel, rfl, by decide +kernel, by decide +kernel⟩
/-- the row -/
def sp_Desk_row (K : PySem.W.Frag) : Sp := fun vs H Q _ => ∃ (a m h b0 : Addr) (f0 : Str) (kvs : List (Key × V)) (ns : List Str) (kv0 : List (Key × V)) (L : List Pk.PR) (s f : Str), vs = [.ref a, .str s, .str f] ∧ Pk.DeskF K H a m h b0 f0 kvs ns kv0 L ∧ s ∈ ns ∧ ∀ (p : Addr) (ts : List Addr) (R : List Pk.PR) (H' : Hp), Pk.Ex H H' → ((s = f0 ∧ R = Pk.ofF f L) ∨ (s ≠ f0 ∧ R = [])) → H' p = some (.lst (ts.map V.ref)) → Pk.AllAt Pk.RowT H' ts R → Q (.ref p) H'
theorem sp_Desk_row_len {K : PySem.W.Frag} {vs : List V} {H : Hp} {Q : VK} {E : XK} (h : sp_Desk_row K vs H Q E) : vs.length = 3 := by
  obtain ⟨_, _, _, _, _, _, _, _, _, _, _, rfl, _⟩ := h
  rfl
section
variable {P : Program} {w : World} {K : PySem.W.Frag} {mg : Str → Option Value} {base : Heap}
theorem ok_Desk_row (T : Txt K mg) : Pk.Ok P w K mg base CX0 4 (He.fAd K ("Desk", some "row")) ["self", "store", "file"] (sp_Desk_row K) := by
  obtain ⟨fd, F⟩ := T.F_Desk_row
  obtain ⟨fd_Desk_look_for, G_Desk_look_for, B_Desk_look_for⟩ := (ok_Desk_look_for (P := P) (w := w) (base := base) T).ex
  obtain ⟨fd_Desk_chosen, G_Desk_chosen, B_Desk_chosen⟩ := (ok_Desk_chosen (P := P) (w := w) (base := base) T).ex
  obtain ⟨fd_lines_of, G_lines_of, B_lines_of⟩ := (ok_lines_of (P := P) (w := w) (base := base) T).ex
  obtain ⟨fd_row_of, G_row_of, B_row_of⟩ := (ok_row_of (P := P) (w := w) (base := base) T).ex
  refine ⟨fd, F.ok sc_Desk_row ?len ?body, F.bindsN fun _ _ _ _ _ _ us hl => match us, hl with | [_, _, _], _ => rfl⟩
  case len => exact fun vs H Q E h => sp_Desk_row_len h
  intro cdv A outer s H vs Q E hr h
  have hu := hu_of hr
  have hu64 := hr.units
  have hu65 := Pk.units65 hr
  refine ⟨_, PSs.nox ((pss_cons (ps_expr (pe_meth (pv 0) T.c_Desk T.m_Desk_look_for G_Desk_look_for (hr.mono (by decide)) B_Desk_look_for .nil pass0 (pa_cons (pv 1) pa_nil)))
      (pss_cons (ps_set (i := 3) sc_Desk_row.nd rfl (Or.inl rfl) (pe_meth (pv 0) T.c_Desk T.m_Desk_chosen G_Desk_chosen (hr.mono (by decide)) B_Desk_chosen .nil pass0 (pa_cons (pv 1) pa_nil)))
      (pss_cons (ps_set (i := 4) sc_Desk_row.nd rfl (Or.inr rfl) pe_dnewT)
      (pss_cons (ps_for PassesOwn.never rfl (Pk.piL K (pe_call G_lines_of (hr.mono (by decide)) rfl T.g_lines_of T.k_lines_of B_lines_of .nil pass0 (pa_cons (pv 3) (pa_cons (pv 2) pa_nil)))) (pg_name (i := 5) sc_Desk_row.nd rfl (Or.inl rfl)) (pss_one (ps_dput hu (pv 4) (pe_ix (Pk.ixT K) (pv 5) pe_int (fun _ _ => rfl)) (pe_ix (Pk.ixT K) (pv 5) pe_int (fun _ _ => rfl)) rfl)))
      (pss_one (ps_ret (pe_lc (own := [("name", 6)]) (g := gName 6) (tt := tYes) rfl sc_Desk_row.nd (Pk.piL K (pe_call G_row_of (hr.mono (by decide)) rfl T.g_row_of T.k_row_of B_row_of .nil pass0 (pa_cons (pv 3) (pa_cons (pv 2) pa_nil)))) (blkOk_by (own := [("name", 6)]) (N := ["self", "store", "file", "patches", "texts", "line", "name"]) (sc := defScope s_Desk_row) (by decide +kernel)) (fun _ _ _ _ _ => (pg_name (i := 6) sc_Desk_row.nd rfl (Or.inl rfl))) (fun _ _ _ _ _ => pts_nil) (fun _ _ _ _ _ => (pe_tup (pa_cons (pe_ix (Pk.ixT K) (pv 6) pe_int (fun _ _ => rfl)) (pa_cons (pe_ix (Pk.ixT K) (pv 6) pe_int (fun _ _ => rfl)) (pa_cons (pe_dget hu (pv 4) (pv 6) (fun _ _ => rfl)) pa_nil))))))))))))), ?_⟩

  obtain ⟨a, m, h, b0, f0, kvs, ns, kv0, L, s, f, rfl, d, hs, q⟩ := h
  obtain ⟨dx, hi⟩ := d.ins
  wtm_at "go"
  refine Pk.rd_ins hi rfl ?_
  wtm_at "go"
  refine ⟨a, m, h, b0, f0, kvs, ns, kv0, L, s, rfl, d, hs, ?_⟩
  wtm_at "go"
  refine Pk.rd_ins hi rfl ?_
  wtm_at "go"
  refine ⟨a, m, h, b0, f0, kvs, ns, kv0, L, s, rfl, d, hs, fun p1 L' H1 e1 hc s1 => ?_⟩
  wtm_at "go"
  intro p2 n_p2
  generalize q_p2 : upd _ p2 _ = H2
  have x_H2 := Pk.lay_ex n_p2 q_p2
  have s_p2 := Pk.lay_at q_p2
  clear q_p2
  wtm_at "go"
  have e2 := e1.trans x_H2
  have d2 := d.ex e2
  have d1 := d.ex e1
  have hL : (∀ r ∈ L', Pk.PatAt K H1 r) ∧ L'.length ≤ 20 ∧ Pk.Two f (Pk.ofF f L') ∧ ((s = f0 ∧ Pk.ofF f L' = Pk.ofF f L) ∨ (s ≠ f0 ∧ Pk.ofF f L' = [])) := by
    rcases hc with ⟨e, rfl⟩ | ⟨e, rfl⟩
    · exact ⟨d1.pats, d1.lL, d1.two f, .inl ⟨e, rfl⟩⟩
    · exact ⟨fun r hr => absurd hr List.not_mem_nil, Nat.zero_le _, .no, .inr ⟨e, rfl⟩⟩
  obtain ⟨hP1, hl, tw, hR⟩ := hL
  have hP : ∀ r ∈ L', Pk.PatAt K H2 r := fun r hr => (hP1 r hr).ex x_H2
  have s12 := SqL.of (K := K) (x_H2 _ _ s1)
  refine ⟨p1, L', f, rfl, s12, hP, hl, fun p3 ts H3 e3 s3 al => ?_⟩
  wtm_at "go"
  have tw2 := tw
  obtain ⟨R, eR⟩ : ∃ R, Pk.ofF f L' = R := ⟨_, rfl⟩
  rw [eR] at al tw hR
  cases tw with
  | no =>
    obtain rfl := al.ts0
    refine ⟨⟨_, SqL.of s3⟩, Pk.for_none (Pk.stopL (SqL.of s3)) ?_⟩
    wtm_at "go"
    refine ⟨p1, L', f, rfl, e3.seqL s12, fun r hr => (hP r hr).ex e3, hl, tw2, fun p5 ks H5 e5 s5 ak => ?_⟩
    rw [eR] at ak
    obtain rfl := ak.ts0
    wtm_at "go"
    refine ⟨⟨_, SqL.of s5⟩, Pk.lc_unr 0 fun p6 n_p6 => ?_⟩
    refine Pk.lw_end (Pk.endL (SqL.of (Pk.Ex.new n_p6 _ _ s5)) (Nat.le_refl _) ?_)
    exact q p6 [] [] _ (e2.trans (e3.trans (e5.trans (Pk.Ex.new n_p6)))) hR upd_same trivial
  | one x h1 h2 h3 =>
    obtain ⟨t0, rfl, k0, u, l1, l2, l3⟩ := al.ts1
    refine ⟨⟨_, SqL.of s3⟩, Pk.for_unr 1 (Pk.w_go (Pk.turnL (SqL.of s3) (x := .ref t0) rfl ?_))⟩
    wtm_at "go"
    refine Pk.rd_ixT (SqT.of (l1)) (Pk.at_nat (k := 1) rfl) ?_
    wtm_at "go"
    refine Pk.rd_ixT (SqT.of (l1)) (Pk.at_nat (k := 0) rfl) ?_
    refine ⟨p2, _, rfl, DPut.t (k := Pk.kT x.nm) (e3 _ _ s_p2) (l2) (Pk.line_lt (by first | (show 0 < 100000; decide) | (show 1 < 100000; decide))), ?_⟩
    generalize q_H4 : upd _ p2 _ = H4
    have s_H4 := Pk.lay_at q_H4
    have m_H4 := Pk.lay_mut q_H4
    clear q_H4
    wtm_at "go"
    have e14 : Pk.Ex H1 H4 := (x_H2.trans e3).mut2 n_p2 m_H4
    have s34 := m_H4 _ _ (by rintro rfl; rw [e3 _ _ s_p2] at s3; cases s3) s3
    refine Pk.w_end (Pk.endL (SqL.of s34) (Nat.le_refl _) ?_)
    wtm_at "go"
    have s14 := SqL.of (K := K) (e14 _ _ s1)
    refine ⟨p1, L', f, rfl, s14, fun r hr => (hP1 r hr).ex e14, hl, tw2, fun p5 ks H5 e5 s5 ak => ?_⟩
    rw [eR] at ak
    obtain ⟨k, rfl, kk⟩ := ak.ts1
    wtm_at "go"
    refine ⟨⟨_, SqL.of s5⟩, Pk.lc_unr 1 fun p6 n_p6 => ?_⟩
    generalize q_p6 : upd _ p6 _ = H6
    have x_H6 := Pk.lay_ex n_p6 q_p6
    have s_p6 := Pk.lay_at q_p6
    clear q_p6
    have n56 : p5 ≠ p6 := by
      rintro rfl
      rw [s5] at n_p6
      cases n_p6
    refine Pk.lw_go (Pk.turnL (SqL.of (x_H6 _ _ s5)) (x := .ref k) rfl ?_)
    wtm_at "go"
    refine ⟨rfl, ?_⟩
    wtm_at "go"
    refine Pk.rd_ixT (SqT.of (x_H6 _ _ kk)) (Pk.at_nat (k := 0) rfl) ?_
    wtm_at "go"
    refine Pk.rd_ixT (SqT.of (x_H6 _ _ kk)) (Pk.at_nat (k := 1) rfl) ?_
    wtm_at "go"
    refine ⟨p2, _, rfl, Pk.dgetT (ks := Pk.kT x.nm) (v := .str x.fl) (x_H6 _ _ (e5 _ _ s_H4)) (x_H6 _ _ kk) (valV_pos rfl), ?_⟩
    wtm_at "go"
    refine ⟨Nat.le_of_ble_eq_true rfl, fun t7 n_t7 => ?_⟩
    generalize q_t7 : upd _ t7 _ = H7
    have x_H7 := Pk.lay_ex n_t7 q_t7
    have s_t7 := Pk.lay_at q_t7
    clear q_t7
    refine ⟨_, x_H7 _ _ (s_p6), Pk.line_lt (by first | (show 0 < 100000; decide) | (show 1 < 100000; decide)), ?_⟩
    generalize q_H8 : upd _ p6 _ = H8
    have s_H8 := Pk.lay_at q_H8
    have m_H8 := Pk.lay_mut q_H8
    clear q_H8
    have n76 : t7 ≠ p6 := by
      rintro rfl
      rw [s_p6] at n_t7
      cases n_t7
    have e58 : Pk.Ex H4 H8 := ((e5.trans x_H6).trans x_H7).mut2 (e5.back n_p6) m_H8
    refine Pk.lw_end (Pk.endL (SqL.of (m_H8 _ _ n56 (x_H7 _ _ (x_H6 _ _ s5)))) (Nat.le_refl _) ?_)
    exact q p6 [t7] [x] _ (e1.trans (e14.trans e58)) hR s_H8 ⟨m_H8 _ _ n76 s_t7, trivial⟩
  | two x y h1 h2 h3 h4 h5 h6 =>
    have ne : ¬ Pk.kT x.nm = Pk.kT y.nm := fun z => h5 (by rw [← Pk.kT_inj z, h2])
    obtain ⟨t0, t1, rfl, ⟨k0, u, l1, l2, l3⟩, k1, u1, w1, w2, w3⟩ := al.ts2
    refine ⟨⟨_, SqL.of s3⟩, Pk.for_unr 2 (Pk.w_go (Pk.turnL (SqL.of s3) (x := .ref t0) rfl ?_))⟩
    wtm_at "go"
    refine Pk.rd_ixT (SqT.of (l1)) (Pk.at_nat (k := 1) rfl) ?_
    wtm_at "go"
    refine Pk.rd_ixT (SqT.of (l1)) (Pk.at_nat (k := 0) rfl) ?_
    refine ⟨p2, _, rfl, DPut.t (k := Pk.kT x.nm) (e3 _ _ s_p2) (l2) (Pk.line_lt (by first | (show 0 < 100000; decide) | (show 1 < 100000; decide))), ?_⟩
    generalize q_H4 : upd _ p2 _ = H4
    have s_H4 := Pk.lay_at q_H4
    have m_H4 := Pk.lay_mut q_H4
    clear q_H4
    wtm_at "go"
    have e14 : Pk.Ex H1 H4 := (x_H2.trans e3).mut2 n_p2 m_H4
    have tupH : ∀ {b : Addr} {xs : List V}, H3 b = some (.tup xs) → H4 b = some (.tup xs) := fun {b xs} hb => m_H4 _ _ (by rintro rfl; rw [e3 _ _ s_p2] at hb; cases hb) hb
    have s34 := m_H4 _ _ (by rintro rfl; rw [e3 _ _ s_p2] at s3; cases s3) s3
    refine Pk.w_go (Pk.turnL (SqL.of s34) (x := .ref t1) rfl ?_)
    wtm_at "go"
    refine Pk.rd_ixT (SqT.of (tupH w1)) (Pk.at_nat (k := 1) rfl) ?_
    wtm_at "go"
    refine Pk.rd_ixT (SqT.of (tupH w1)) (Pk.at_nat (k := 0) rfl) ?_
    refine ⟨p2, _, rfl, DPut.t (k := Pk.kT y.nm) (s_H4) (tupH w2) (Pk.line_lt (by first | (show 0 < 100000; decide) | (show 1 < 100000; decide))), ?_⟩
    generalize q_H4b : upd _ p2 _ = H4b
    have s_H4b := Pk.lay_at q_H4b
    have m_H4b := Pk.lay_mut q_H4b
    clear q_H4b
    wtm_at "go"
    have e14b : Pk.Ex H1 H4b := e14.mut2 n_p2 m_H4b
    have s34b := m_H4b _ _ (by rintro rfl; rw [s_H4] at s34; cases s34) s34
    have tx : H4b p2 = some (.dT [(Pk.kT x.nm, .str x.fl), (Pk.kT y.nm, .str y.fl)]) := by
      rw [s_H4b]
      have nk : valV [(Pk.kT x.nm, V.str x.fl)] (Pk.kT y.nm) = none := valV_neg ne
      have pk : putK ([] : List (List Key × V)) (Pk.kT x.nm) (V.str x.fl) = [(Pk.kT x.nm, V.str x.fl)] := rfl
      rw [pk, putK_new _ nk]
      rfl
    refine Pk.w_end (Pk.endL (SqL.of s34b) (Nat.le_refl _) ?_)
    wtm_at "go"
    have s14 := SqL.of (K := K) (e14b _ _ s1)
    refine ⟨p1, L', f, rfl, s14, fun r hr => (hP1 r hr).ex e14b, hl, tw2, fun p5 ks H5 e5 s5 ak => ?_⟩
    rw [eR] at ak
    obtain ⟨k, k', rfl, kk, kk'⟩ := ak.ts2
    wtm_at "go"
    refine ⟨⟨_, SqL.of s5⟩, Pk.lc_unr 2 fun p6 n_p6 => ?_⟩
    generalize q_p6 : upd _ p6 _ = H6
    have x_H6 := Pk.lay_ex n_p6 q_p6
    have s_p6 := Pk.lay_at q_p6
    clear q_p6
    have n56 : p5 ≠ p6 := by
      rintro rfl
      rw [s5] at n_p6
      cases n_p6
    refine Pk.lw_go (Pk.turnL (SqL.of (x_H6 _ _ s5)) (x := .ref k) rfl ?_)
    wtm_at "go"
    refine ⟨rfl, ?_⟩
    wtm_at "go"
    refine Pk.rd_ixT (SqT.of (x_H6 _ _ kk)) (Pk.at_nat (k := 0) rfl) ?_
    wtm_at "go"
    refine Pk.rd_ixT (SqT.of (x_H6 _ _ kk)) (Pk.at_nat (k := 1) rfl) ?_
    wtm_at "go"
    refine ⟨p2, _, rfl, Pk.dgetT (ks := Pk.kT x.nm) (v := .str x.fl) (x_H6 _ _ (e5 _ _ tx)) (x_H6 _ _ kk) (valV_pos rfl), ?_⟩
    wtm_at "go"
    refine ⟨Nat.le_of_ble_eq_true rfl, fun t7 n_t7 => ?_⟩
    generalize q_t7 : upd _ t7 _ = H7
    have x_H7 := Pk.lay_ex n_t7 q_t7
    have s_t7 := Pk.lay_at q_t7
    clear q_t7
    refine ⟨_, x_H7 _ _ (s_p6), Pk.line_lt (by first | (show 0 < 100000; decide) | (show 1 < 100000; decide)), ?_⟩
    generalize q_H8 : upd _ p6 _ = H8
    have s_H8 := Pk.lay_at q_H8
    have m_H8 := Pk.lay_mut q_H8
    clear q_H8
    have n76 : t7 ≠ p6 := by
      rintro rfl
      rw [s_p6] at n_t7
      cases n_t7
    have e58 : Pk.Ex H4b H8 := ((e5.trans x_H6).trans x_H7).mut2 (e5.back n_p6) m_H8
    have e55 : Pk.Ex H5 H8 := (x_H6.trans x_H7).mut2 n_p6 m_H8
    refine Pk.lw_go (Pk.turnL (SqL.of (e55 _ _ s5)) (x := .ref k') rfl ?_)
    wtm_at "go"
    refine ⟨rfl, ?_⟩
    wtm_at "go"
    refine Pk.rd_ixT (SqT.of (e55 _ _ kk')) (Pk.at_nat (k := 0) rfl) ?_
    wtm_at "go"
    refine Pk.rd_ixT (SqT.of (e55 _ _ kk')) (Pk.at_nat (k := 1) rfl) ?_
    wtm_at "go"
    refine ⟨p2, _, rfl, Pk.dgetT (ks := Pk.kT y.nm) (v := .str y.fl) (e58 _ _ tx) (e55 _ _ kk') ((valV_neg ne).trans (valV_pos rfl)), ?_⟩
    wtm_at "go"
    refine ⟨Nat.le_of_ble_eq_true rfl, fun t9 n_t9 => ?_⟩
    generalize q_t9 : upd _ t9 _ = H9
    have x_H9 := Pk.lay_ex n_t9 q_t9
    have s_t9 := Pk.lay_at q_t9
    clear q_t9
    refine ⟨_, x_H9 _ _ (s_H8), Pk.line_lt (by first | (show 0 < 100000; decide) | (show 1 < 100000; decide)), ?_⟩
    generalize q_H10 : upd _ p6 _ = H10
    have s_H10 := Pk.lay_at q_H10
    have m_H10 := Pk.lay_mut q_H10
    clear q_H10
    have n96 : t9 ≠ p6 := by
      rintro rfl
      rw [s_H8] at n_t9
      cases n_t9
    have e510 : Pk.Ex H4b H10 := (e58.trans x_H9).mut2 (e5.back n_p6) m_H10
    refine Pk.lw_end (Pk.endL (SqL.of (m_H10 _ _ n56 (x_H9 _ _ (e55 _ _ s5)))) (Nat.le_refl _) ?_)
    exact q p6 [t7, t9] [x, y] _ (e1.trans (e14b.trans e510)) hR s_H10 ⟨m_H10 _ _ n76 (x_H9 _ _ (m_H8 _ _ n76 s_t7)), m_H10 _ _ n96 s_t9, trivial⟩
end
end PkC
namespace PkC
open PySem PySem.Spec PyProof.Rows L2
theorem sc_Desk_files : FnScope ["self", "store", "names", "patch"] ["self", "store"] (defScope s_Desk_files) := ⟨rfl, rfl, rfl, by decide +kernel, rfl, by decide +kernel, by decide +kernel⟩
/-- the files, sorted -/
def sp_Desk_files (K : PySem.W.Frag) : Sp := fun vs H Q _ => ∃ (a m h b0 : Addr) (f0 : Str) (kvs : List (Key × V)) (ns : List Str) (kv0 : List (Key × V)) (L : List Pk.PR) (s : Str), vs = [.ref a, .str s] ∧ Pk.DeskF K H a m h b0 f0 kvs ns kv0 L ∧ s ∈ ns ∧ ∀ (p : Addr) (ys : List Str) (H' : Hp), Pk.Ex H H' → ((s = f0 ∧ ys.Perm (Pk.firsts L)) ∨ (s ≠ f0 ∧ ys = [])) → sortedS ys = true → H' p = some (.lst (ys.map V.str)) → Q (.ref p) H'
theorem sp_Desk_files_len {K : PySem.W.Frag} {vs : List V} {H : Hp} {Q : VK} {E : XK} (h : sp_Desk_files K vs H Q E) : vs.length = 2 := by
  obtain ⟨_, _, _, _, _, _, _, _, _, _, rfl, _⟩ := h
  rfl
section
variable {P : Program} {w : World} {K : PySem.W.Frag} {mg : Str → Option Value} {base : Heap}
theorem ok_Desk_files (T : Txt K mg) : Pk.Ok P w K mg base CX0 5 (He.fAd K ("Desk", some "files")) ["self", "store"] (sp_Desk_files K) := by
  obtain ⟨fd, F⟩ := T.F_Desk_files
  obtain ⟨fd_Desk_look_for, G_Desk_look_for, B_Desk_look_for⟩ := (ok_Desk_look_for (P := P) (w := w) (base := base) T).ex
  obtain ⟨fd_Desk_chosen, G_Desk_chosen, B_Desk_chosen⟩ := (ok_Desk_chosen (P := P) (w := w) (base := base) T).ex
  obtain ⟨fd_Desk_row, G_Desk_row, B_Desk_row⟩ := (ok_Desk_row (P := P) (w := w) (base := base) T).ex
  refine ⟨fd, F.ok sc_Desk_files ?len ?body, F.bindsN fun _ _ _ _ _ _ us hl => match us, hl with | [_, _], _ => rfl⟩
  case len => exact fun vs H Q E h => sp_Desk_files_len h
  intro cdv A outer s H vs Q E hr h
  have hu := hu_of hr
  have hu64 := hr.units
  have hu65 := Pk.units65 hr
  refine ⟨_, PSs.nox ((pss_cons (ps_expr (pe_meth (pv 0) T.c_Desk T.m_Desk_look_for G_Desk_look_for (hr.mono (by decide)) B_Desk_look_for .nil pass0 (pa_cons (pv 1) pa_nil)))
      (pss_cons (ps_set (i := 2) sc_Desk_files.nd rfl (Or.inl rfl) pe_dnewK)
      (pss_cons (ps_for PassesOwn.never rfl (Pk.piL K (pe_meth (pv 0) T.c_Desk T.m_Desk_chosen G_Desk_chosen (hr.mono (by decide)) B_Desk_chosen .nil pass0 (pa_cons (pv 1) pa_nil))) (pg_name (i := 3) sc_Desk_files.nd rfl (Or.inl rfl)) (pss_one (ps_if (PW.pt (pw_and (pt_cmpR op_notN (Pk.fldK K (pv 3) rfl) pe_non (nomark _)) (pw_and1 (pt_cmpR op_gt (pe_callB (Pk.lenK K) (by rfl) T.b_len Pk.bt_len (pa_cons (pe_meth (pv 0) T.c_Desk T.m_Desk_row G_Desk_row (hr.mono (by decide)) B_Desk_row .nil pass0 (pa_cons (pv 1) (pa_cons (Pk.fldK K (pv 3) rfl) pa_nil))) pa_nil)) pe_int (nomark _))))) (pss_one (ps_dput hu (pv 2) (Pk.fldK K (pv 3) rfl) pe_bl rfl)) pss_nil)))
      (pss_one (ps_ret (pe_callB (call_sortedD rfl) (by rfl) T.b_sorted Pk.bt_sorted (pa_cons (pv 2) pa_nil)))))))), ?_⟩

  obtain ⟨a, m, h, b0, f0, kvs, ns, kv0, L, s, rfl, d, hs, q⟩ := h
  obtain ⟨dx, hi⟩ := d.ins
  wtm_at "go"
  refine Pk.rd_ins hi rfl ?_
  wtm_at "go"
  refine ⟨a, m, h, b0, f0, kvs, ns, kv0, L, s, rfl, d, hs, ?_⟩
  wtm_at "go"
  intro p0 n_p0
  generalize q_p0 : upd _ p0 _ = H0
  have x_H0 := Pk.lay_ex n_p0 q_p0
  have s_p0 := Pk.lay_at q_p0
  clear q_p0
  wtm_at "go"
  refine Pk.rd_ins (x_H0 _ _ hi) rfl ?_
  wtm_at "go"
  have d0 := d.ex x_H0
  refine ⟨a, m, h, b0, f0, kvs, ns, kv0, L, s, rfl, d0, hs, fun p1 L' H1 e1 hc s1 => ?_⟩
  wtm_at "go"
  have e01 := x_H0.trans e1
  have hLL : (∀ r ∈ L', Pk.PatAt K H1 r) ∧ L'.length ≤ 20 ∧ (∀ f, Pk.Two f (Pk.ofF f L')) ∧ ((s = f0 ∧ L' = L) ∨ (s ≠ f0 ∧ L' = [])) := by
    have d1 := d0.ex e1
    rcases hc with ⟨e, rfl⟩ | ⟨e, rfl⟩
    · exact ⟨d1.pats, d1.lL, d1.two, .inl ⟨e, rfl⟩⟩
    · exact ⟨fun r hr => absurd hr List.not_mem_nil, Nat.zero_le _, fun f => .no, .inr ⟨e, rfl⟩⟩
  obtain ⟨hP, hl, tw, hc2⟩ := hLL
  refine ⟨⟨_, SqL.of s1⟩, for_list (K := K) (a := p1) (xs := L'.map fun r => V.ref r.ad) (fun i σ H' => Pk.Ex H H' ∧ (∀ b o, b ≠ p0 → H1 b = some o → H' b = some o) ∧ ∃ (v3 : Option V) (kz : List (Key × V)), σ = [some (.ref a), some (.str s), some (.ref p0), v3] ∧ H' p0 = some (.dK kz) ∧ kz.map (·.1) = (Pk.firsts (L'.take i)).map Sum.inr ∧ kz.length ≤ i) ?_ ?_ ?_ ?_⟩
  · exact ⟨e01, fun b o _ z => z, none, [], rfl, e1 _ _ s_p0, rfl, Nat.le_refl _⟩
  · rintro i σ H' hi2 ⟨_, mm, _⟩
    exact SqL.of (mm _ _ (by rintro rfl; rw [e1 _ _ s_p0] at s1; cases s1) s1)
  · rintro i x σ H2 hx ⟨e2, mm, v3, kz, rfl, h0, hk, hkl⟩
    rw [List.getElem?_map] at hx
    cases e : L'[i]? with
    | none =>
      rw [e] at hx
      cases hx
    | some r =>
      rw [e] at hx
      cases hx
      have hr := List.mem_of_getElem? e
      have hi2 : i < L'.length := (List.getElem?_eq_some_iff.mp e).1
      have d2 := d.ex e2
      obtain ⟨dx2, i2⟩ := d2.ins
      have hsL : s = f0 ∧ L' = L := by
        rcases hc2 with z | ⟨_, rfl⟩
        · exact z
        · exact absurd hr List.not_mem_nil
      obtain ⟨rfl, rfl⟩ := hsL
      have P := d2.pats r hr
      obtain ⟨dxr, nd, kvr, o1, o2, o3⟩ := P.obj
      wtm_at "go"
      refine Pk.rd_fldA o1 T.c_Patch T.n_Patch_file rfl ?_
      wtm_at "go"
      refine Pk.rd_nno (fun z => nomatch z) ?_
      wtm_at "go"
      refine Pk.rd_ins i2 rfl ?_
      wtm_at "go"
      refine Pk.rd_fldA o1 T.c_Patch T.n_Patch_file rfl ?_
      wtm_at "go"
      refine ⟨_, _, _, _, _, _, _, _, _, _, _, rfl, d2, hs, fun p3 ts R H3 e3 hR s3 al => ?_⟩
      wtm_at "go"
      have hrR : r ∈ R := by
        rcases hR with ⟨_, rfl⟩ | ⟨z, _⟩
        · exact Pk.ofF_mem.mpr ⟨hr, rfl⟩
        · exact absurd rfl z
      have lR : 0 < ts.length := by
        rw [al.len]
        exact List.length_pos_of_mem hrR
      refine Pk.rd_yes (by rw [List.length_map]; omega) ?_
      wtm_at "go"
      refine Pk.rd_fldA (e3 _ _ o1) T.c_Patch T.n_Patch_file rfl ?_
      wtm_at "go"
      refine ⟨p0, _, rfl, DPut.k (k := Sum.inr r.fl) (e3 _ _ h0) (Pk.line_lt (by omega)), ?_⟩
      generalize q_H4 : upd _ p0 _ = H4
      have s_H4 := Pk.lay_at q_H4
      have m_H4 := Pk.lay_mut q_H4
      clear q_H4
      wtm_at "go"
      have tk : L'.take (i + 1) = L'.take i ++ [r] := by
        rw [List.take_succ, e]
        rfl
      have sp : L' = L'.take i ++ r :: L'.drop (i + 1) := by
        have z := List.take_append_drop i L'
        rw [List.drop_eq_getElem_cons hi2] at z
        have y : L'[i] = r := by
          rw [List.getElem?_eq_getElem hi2] at e
          exact Option.some.inj e
        rw [y] at z
        exact z.symm
      have hh := Pk.Two.here (f := r.fl) (by rw [← sp]; exact tw r.fl) rfl
      refine ⟨(e2.trans e3).mut2 n_p0 m_H4, fun b o hb ho => m_H4 _ _ hb (e3 _ _ (mm _ _ hb ho)), _, _, rfl, s_H4, ?_, ?_⟩
      · rw [tk, Pk.firsts_snoc]
        cases hu : r.up with
        | true =>
          rw [if_pos rfl]
          obtain ⟨x, hx1, hx2⟩ := hh.2 hu
          have hx3 : x ∈ Pk.ofF r.fl (L'.take i) := by rw [hx1]; exact List.mem_singleton.mpr rfl
          have hx4 := Pk.ofF_mem.mp hx3
          rw [Pk.putK_old _ (by rw [hk]; exact List.mem_map.mpr ⟨r.fl, Pk.firsts_mem.mpr ⟨x, hx4.1, hx2, hx4.2⟩, rfl⟩), hk]
        | false =>
          rw [if_neg Bool.false_ne_true]
          have nk : valV kz (Sum.inr r.fl : Key) = none := Pk.valV_none (by
            rw [hk]
            intro z
            obtain ⟨g, hg, eg⟩ := List.mem_map.mp z
            cases eg
            obtain ⟨x, hx1, hx2, hx3⟩ := Pk.firsts_mem.mp hg
            have hx4 : x ∈ Pk.ofF r.fl (L'.take i) := Pk.ofF_mem.mpr ⟨hx1, hx3⟩
            rw [hh.1 hu] at hx4
            exact absurd hx4 List.not_mem_nil)
          rw [putK_new _ nk, List.map_append, List.map_append, hk]
          rfl
      · have z := length_putK kz (Sum.inr r.fl : Key) (V.bl true)
        omega
  · rintro σ H2 ⟨e2, mm, v3, kz, rfl, h0, hk, hkl⟩
    rw [List.length_map, List.take_length] at hk
    rw [List.length_map] at hkl
    wtm_at "go"
    have lf := Pk.firsts_le L'
    refine ⟨p0, kz, Pk.firsts L', rfl, .inl h0, hk, by omega, fun ys p hp hsrt hn => ?_⟩
    refine q p ys _ (e2.trans (Pk.Ex.new hn)) ?_ hsrt upd_same
    rcases hc2 with ⟨e, rfl⟩ | ⟨e, rfl⟩
    · exact .inl ⟨e, hp⟩
    · exact .inr ⟨e, List.Perm.eq_nil hp⟩
end
end PkC
namespace PkC
open PySem PySem.Spec PyProof.Rows L2
theorem sc_Desk_quarrels : FnScope ["self", "store", "file"] ["self", "store", "file"] (defScope s_Desk_quarrels) := ⟨rfl, rfl, rfl, by decide +kernel, rfl, by decide +kernel, by decide +kernel⟩
/-- no quarrels -/
def sp_Desk_quarrels (K : PySem.W.Frag) : Sp := fun vs H Q _ => ∃ (a m h b0 : Addr) (f0 : Str) (kvs : List (Key × V)) (ns : List Str) (kv0 : List (Key × V)) (L : List Pk.PR) (s f : Str), vs = [.ref a, .str s, .str f] ∧ Pk.DeskF K H a m h b0 f0 kvs ns kv0 L ∧ s ∈ ns ∧ ∀ (p : Addr) (H' : Hp), Pk.Ex H H' → H' p = some (.lst []) → Q (.ref p) H'
theorem sp_Desk_quarrels_len {K : PySem.W.Frag} {vs : List V} {H : Hp} {Q : VK} {E : XK} (h : sp_Desk_quarrels K vs H Q E) : vs.length = 3 := by
  obtain ⟨_, _, _, _, _, _, _, _, _, _, _, rfl, _⟩ := h
  rfl
section
variable {P : Program} {w : World} {K : PySem.W.Frag} {mg : Str → Option Value} {base : Heap}
theorem ok_Desk_quarrels (T : Txt K mg) : Pk.Ok P w K mg base CX0 5 (He.fAd K ("Desk", some "quarrels")) ["self", "store", "file"] (sp_Desk_quarrels K) := by
  obtain ⟨fd, F⟩ := T.F_Desk_quarrels
  obtain ⟨fd_Desk_look_for, G_Desk_look_for, B_Desk_look_for⟩ := (ok_Desk_look_for (P := P) (w := w) (base := base) T).ex
  obtain ⟨fd_quarrels_of, G_quarrels_of, B_quarrels_of⟩ := (ok_quarrels_of (P := P) (w := w) (base := base) T).ex
  obtain ⟨fd_Desk_chosen, G_Desk_chosen, B_Desk_chosen⟩ := (ok_Desk_chosen (P := P) (w := w) (base := base) T).ex
  refine ⟨fd, F.ok sc_Desk_quarrels ?len ?body, F.bindsN fun _ _ _ _ _ _ us hl => match us, hl with | [_, _, _], _ => rfl⟩
  case len => exact fun vs H Q E h => sp_Desk_quarrels_len h
  intro cdv A outer s H vs Q E hr h
  have hu := hu_of hr
  have hu64 := hr.units
  have hu65 := Pk.units65 hr
  refine ⟨_, PSs.nox ((pss_cons (ps_expr (pe_meth (pv 0) T.c_Desk T.m_Desk_look_for G_Desk_look_for (hr.mono (by decide)) B_Desk_look_for .nil pass0 (pa_cons (pv 1) pa_nil)))
      (pss_one (ps_ret (pe_call G_quarrels_of (hr.mono (by decide)) rfl T.g_quarrels_of T.k_quarrels_of B_quarrels_of .nil pass0 (pa_cons (pe_meth (pv 0) T.c_Desk T.m_Desk_chosen G_Desk_chosen (hr.mono (by decide)) B_Desk_chosen .nil pass0 (pa_cons (pv 1) pa_nil)) (pa_cons (pv 2) pa_nil))))))), ?_⟩

  obtain ⟨a, m, h, b0, f0, kvs, ns, kv0, L, s, f, rfl, d, hs, q⟩ := h
  obtain ⟨dx, hi⟩ := d.ins
  wtm_at "go"
  refine Pk.rd_ins hi rfl ?_
  wtm_at "go"
  refine ⟨a, m, h, b0, f0, kvs, ns, kv0, L, s, rfl, d, hs, ?_⟩
  wtm_at "go"
  refine Pk.rd_ins hi rfl ?_
  wtm_at "go"
  refine ⟨a, m, h, b0, f0, kvs, ns, kv0, L, s, rfl, d, hs, fun p1 L' H1 e1 hc s1 => ?_⟩
  wtm_at "go"
  have d1 := d.ex e1
  have hL : (∀ r ∈ L', Pk.PatAt K H1 r) ∧ L'.length ≤ 20 ∧ Pk.Two f (Pk.ofF f L') := by
    rcases hc with ⟨_, rfl⟩ | ⟨_, rfl⟩
    · exact ⟨d1.pats, d1.lL, d1.two f⟩
    · exact ⟨fun r hr => absurd hr List.not_mem_nil, Nat.zero_le _, .no⟩
  exact ⟨p1, L', f, rfl, SqL.of s1, hL.1, hL.2.1, hL.2.2, fun p H' e s => q p H' (e1.trans e) s⟩
end
end PkC
namespace PkC
open PySem PySem.Spec PyProof.Rows L2
theorem sc_Desk_record : FnScope ["self", "store", "patch", "file", "texts", "old", "row", "pairs", "stays", "cuts", "line", "pair", "k"] ["self", "store", "patch", "file", "texts"] (defScope s_Desk_record) := ⟨rfl, rfl, rfl, by decide +kernel, rfl, by decide +kernel, by decide +kernel⟩
/-- one more patch of one line, or a taken name -/
def sp_Desk_record (K : PySem.W.Frag) : Sp := fun vs H Q E => ∃ (a m h b0 : Addr) (f0 : Str) (kvs : List (Key × V)) (ns : List Str) (kv0 : List (Key × V)) (L : List Pk.PR) (s n f : Str) (tl : Addr), vs = [.ref a, .str s, .str n, .str f, .ref tl] ∧ Pk.DeskF K H a m h b0 f0 kvs ns kv0 L ∧ s ∈ ns ∧ Pk.Good n ∧ Pk.Good f ∧ (n ∈ L.map Pk.PR.nm → E (.ref (He.ga K "NameTaken")) none H) ∧ (n ∉ L.map Pk.PR.nm → s = f0 ∧ L.length < 20 ∧ ∃ up : Bool, ((up = false ∧ n = f ∧ Pk.ofF f L = [] ∧ H tl = some (.lst [.str f])) ∨ (up = true ∧ (∃ x, Pk.ofF f L = [x]) ∧ H tl = some (.lst [.str f, .str f]))) ∧ ∀ (r : Pk.PR) (kv1 : List (Key × V)) (H' : Hp), r.nm = n → r.fl = f → r.up = up → H r.pl = none → H r.cl = none → (∀ b o, b ≠ m → b ≠ b0 → H b = some o → H' b = some o) → Pk.DeskF K H' a m h b0 f0 kvs ns kv1 (L ++ [r]) → Q .non H')
theorem sp_Desk_record_len {K : PySem.W.Frag} {vs : List V} {H : Hp} {Q : VK} {E : XK} (h : sp_Desk_record K vs H Q E) : vs.length = 5 := by
  obtain ⟨_, _, _, _, _, _, _, _, _, _, _, _, _, rfl, _⟩ := h
  rfl
section
variable {P : Program} {w : World} {K : PySem.W.Frag} {mg : Str → Option Value} {base : Heap}
theorem ok_Desk_record (T : Txt K mg) : Pk.Ok P w K mg base (L2N.CX P w) 6 (He.fAd K ("Desk", some "record")) ["self", "store", "patch", "file", "texts"] (sp_Desk_record K) := by
  obtain ⟨fd, F⟩ := T.F_Desk_record
  obtain ⟨fd_Desk_fresh, G_Desk_fresh, B_Desk_fresh⟩ := (ok_Desk_fresh (P := P) (w := w) (base := base) T).ex
  obtain ⟨fd_row_of, G_row_of, B_row_of⟩ := (ok_row_of (P := P) (w := w) (base := base) T).ex
  obtain ⟨fd_kept, G_kept, B_kept⟩ := (ok_kept (P := P) (w := w) (base := base) T).ex
  obtain ⟨fd_Desk_keep, G_Desk_keep, B_Desk_keep⟩ := (ok_Desk_keep (P := P) (w := w) (base := base) T).ex
  obtain ⟨fd_Desk_chosen, G_Desk_chosen, B_Desk_chosen⟩ := (ok_Desk_chosen (P := P) (w := w) (base := base) T).ex
  obtain ⟨fd_puts_of, G_puts_of, B_puts_of⟩ := (ok_puts_of (P := P) (w := w) (base := base) T).ex
  obtain ⟨fd_Desk_quarrels, G_Desk_quarrels, B_Desk_quarrels⟩ := (ok_Desk_quarrels (P := P) (w := w) (base := base) T).ex
  obtain ⟨fd_Desk_row, G_Desk_row, B_Desk_row⟩ := (ok_Desk_row (P := P) (w := w) (base := base) T).ex
  refine ⟨fd, F.ok sc_Desk_record ?len ?body, F.bindsN fun _ _ _ _ _ _ us hl => match us, hl with | [_, _, _, _, _], _ => rfl⟩
  case len => exact fun vs H Q E h => sp_Desk_record_len h
  intro cdv A outer s H vs Q E hr h
  have hu := hu_of hr
  have hu64 := hr.units
  have hu65 := Pk.units65 hr
  have tk0 : L2N.Takes (cxOf (L2N.CX P w) P w K mg base ["self", "store", "patch", "file", "texts", "old", "row", "pairs", "stays", "cuts", "line", "pair", "k"] "Desk.record" (defScope s_Desk_record) (He.fAd K ("Desk", some "record")) cdv A outer s H E) (fun cls d _ H => E cls d H) := L2N.takes_of rfl rfl rfl rfl
  refine ⟨_, (pss_cons (ps_expr (pe_meth (pv 0) T.c_Desk T.m_Desk_fresh G_Desk_fresh (hr.mono (by decide)) B_Desk_fresh .nil (L2N.passes_call tk0 (fun _ _ _ _ z => z)) (pa_cons (pv 1) (pa_cons (pv 2) (pa_cons (pv 3) pa_nil)))))
      (pss_cons (ps_if (pt_cmpR op_gt (pe_callB (Pk.lenK K) (by rfl) T.b_len Pk.bt_len (pa_cons (pe_meth (pv 0) T.c_Desk T.m_Desk_quarrels G_Desk_quarrels (hr.mono (by decide)) B_Desk_quarrels .nil pass0 (pa_cons (pv 1) (pa_cons (pv 3) pa_nil))) pa_nil)) pe_int (nomark _)) Pk.pss_never pss_nil)
      (pss_cons (ps_setLc (i := 5) (own := [("line", 10)]) (g := gName 10) (tt := tYes) rfl sc_Desk_record.nd rfl rfl (sw_true rfl rfl rfl (by decide +kernel)) (Pk.piL K (pe_meth (pv 0) T.c_Desk T.m_Desk_row G_Desk_row (hr.mono (by decide)) B_Desk_row .nil pass0 (pa_cons (pv 1) (pa_cons (pv 3) pa_nil)))) (blkOk_by (own := [("line", 10)]) (N := ["self", "store", "patch", "file", "texts", "old", "row", "pairs", "stays", "cuts", "line", "pair", "k"]) (sc := defScope s_Desk_record) (by decide +kernel)) (fun _ _ _ _ _ => (pg_name (i := 10) sc_Desk_record.nd rfl (Or.inl rfl))) (fun _ _ _ _ _ => pts_nil) (fun _ _ _ _ _ => (pe_ix (Pk.ixT K) (pv 10) pe_int (fun _ _ => rfl))))
      (pss_cons (ps_if (pt_cmpR (Pk.eqDK K hu64) (pv 5) (pv 4) (nomark _)) Pk.pss_never pss_nil)
      (pss_cons (ps_set (i := 6) sc_Desk_record.nd rfl (Or.inr rfl) (pe_call G_row_of (hr.mono (by decide)) rfl T.g_row_of T.k_row_of B_row_of .nil pass0 (pa_cons (pe_meth (pv 0) T.c_Desk T.m_Desk_chosen G_Desk_chosen (hr.mono (by decide)) B_Desk_chosen .nil pass0 (pa_cons (pv 1) pa_nil)) (pa_cons (pv 3) pa_nil))))
      (pss_cons (ps_set (i := 7) sc_Desk_record.nd rfl (Or.inl rfl) (pe_call G_kept (hr.mono (by decide)) rfl T.g_kept T.k_kept B_kept .nil pass0 (pa_cons (pv 5) (pa_cons (pv 4) pa_nil))))
      (pss_cons (ps_set (i := 8) sc_Desk_record.nd rfl (Or.inr rfl) (pe_lc (own := [("pair", 11)]) (g := gName 11) (tt := tYes) rfl sc_Desk_record.nd (Pk.piL K (pv 7)) (blkOk_by (own := [("pair", 11)]) (N := ["self", "store", "patch", "file", "texts", "old", "row", "pairs", "stays", "cuts", "line", "pair", "k"]) (sc := defScope s_Desk_record) (by decide +kernel)) (fun _ _ _ _ _ => (pg_name (i := 11) sc_Desk_record.nd rfl (Or.inl rfl))) (fun _ _ _ _ _ => pts_nil) (fun _ _ _ _ _ => (pe_ix (Pk.ixT K) (pv 11) pe_int (fun _ _ => rfl)))))
      (pss_cons (ps_setLc (i := 9) (own := [("k", 12)]) (g := gName 12) rfl sc_Desk_record.nd rfl rfl (sw_true rfl rfl rfl (by decide +kernel)) (pi_range1 rfl T.b_range (pa_cons (pe_callB (Pk.lenK K) (by rfl) T.b_len Pk.bt_len (pa_cons (pv 6) pa_nil)) pa_nil)) (blkOk_by (own := [("k", 12)]) (N := ["self", "store", "patch", "file", "texts", "old", "row", "pairs", "stays", "cuts", "line", "pair", "k"]) (sc := defScope s_Desk_record) (by decide +kernel)) (fun _ _ _ _ _ => (pg_name (i := 12) sc_Desk_record.nd rfl (Or.inl rfl))) (fun _ _ _ _ _ => (pts_one (pt_cmpR (Pk.ninSq K) (pv 12) (pv 8) (by rfl)))) (fun _ _ _ _ _ => (pe_ix (Pk.ixL K) (pv 6) (pv 12) (fun _ _ => rfl))))
      (pss_one (ps_expr (pe_meth (pv 0) T.c_Desk T.m_Desk_keep G_Desk_keep (hr.mono (by decide)) B_Desk_keep .nil pass0 (pa_cons (pv 1) (pa_cons (pv 2) (pa_cons (pv 3) (pa_cons (pe_call G_puts_of (hr.mono (by decide)) rfl T.g_puts_of T.k_puts_of B_puts_of .nil pass0 (pa_cons (pv 2) (pa_cons (pv 6) (pa_cons (pv 4) (pa_cons (pv 7) pa_nil))))) (pa_cons (pv 9) (pa_cons pe_non pa_nil))))))))))))))))), ?_⟩

  obtain ⟨a, m, h, b0, f0, kvs, ns, kv0, L, s, n, f, tl, rfl, d, hs, gn, gf, q1, q2⟩ := h
  obtain ⟨dx, hi⟩ := d.ins
  wtm_at "go"
  refine Pk.rd_ins hi rfl ?_
  wtm_at "go"
  refine ⟨a, m, h, b0, f0, kvs, ns, kv0, L, s, n, f, rfl, d, hs, gn, gf, q1, fun hn => ?_⟩
  obtain ⟨rfl, hL, up, hc, q⟩ := q2 hn
  wtm_at "go"
  refine Pk.rd_ins hi rfl ?_
  wtm_at "go"
  refine ⟨_, _, _, _, _, _, _, _, _, _, _, rfl, d, hs, fun p1 H1 e1 s1 => ?_⟩
  wtm_at "go"
  refine Pk.rd_no (by decide) ?_
  wtm_at "go"
  have d1 := d.ex e1
  refine Pk.rd_ins (e1 _ _ hi) rfl ?_
  wtm_at "go"
  refine ⟨_, _, _, _, _, _, _, _, _, _, _, rfl, d1, hs, fun p2 ts R H2 e2 hR s2 al => ?_⟩
  wtm_at "go"
  rcases hc with ⟨rfl, enf, eF, htl⟩ | ⟨rfl, ⟨x, eF⟩, htl⟩
  · have eR : R = [] := by
      rcases hR with ⟨_, e⟩ | ⟨z, _⟩
      · rw [e, eF]
      · exact absurd rfl z
    subst eR
    obtain rfl := al.ts0
    refine ⟨⟨_, SqL.of s2⟩, Pk.lc_unr 0 fun po n_po => ?_⟩
    generalize q_po : upd _ po _ = H3a
    have x_H3a := Pk.lay_ex n_po q_po
    have s_poa := Pk.lay_at q_po
    clear q_po
    obtain ⟨H3, e3a, x_H3, s_po⟩ : ∃ H3, H3 = H3a ∧ Pk.Ex H2 H3 ∧ H3 po = some (.lst []) := ⟨H3a, rfl, x_H3a, s_poa⟩
    subst e3a
    first | refine Pk.lw_end (Pk.endL (SqL.of (x_H3 _ _ s2)) (Nat.le_refl _) ?_) | refine Pk.endL (SqL.of (x_H3 _ _ s2)) (Nat.le_refl _) ?_
    wtm_at "go"
    have e3 : Pk.Ex H H3 := e1.trans (e2.trans x_H3)
    have tl3 := e3 _ _ htl
    have tk := gf.tok
    have sh1 : SeqAt.shaped (.list (List.map PyData.str ([] : List Str))) = true := Pk.shaped_strs (by intro t ht; simp at ht; try (subst ht; exact tk))
    have sh2 : SeqAt.shaped (.list (List.map PyData.str ([f] : List Str))) = true := Pk.shaped_strs (by intro t ht; simp at ht; subst ht; exact tk)
    refine Pk.rd_eqNo (.lst (SqL.of s_po) (Pk.dp_strs [])) (.lst (SqL.of tl3) (Pk.dp_strs [f])) sh1 sh2 (by simp [PyData.eqv, PyData.eqvAll]) ?_
    wtm_at "go"
    refine Pk.rd_ins (e3 _ _ hi) rfl ?_
    wtm_at "go"
    refine ⟨_, _, _, _, _, _, _, _, _, _, rfl, d.ex e3, hs, fun p4 L' H4 e4 hc4 s4 => ?_⟩
    have eL : L' = L := by
      rcases hc4 with ⟨_, e⟩ | ⟨z, _⟩
      · exact e
      · exact absurd rfl z
    subst eL
    wtm_at "go"
    have e04 := e3.trans e4
    have d4 := d.ex e04
    refine ⟨p4, L', f, rfl, SqL.of s4, d4.pats, d4.lL, d4.two f, fun p5 ks H5 e5 s5 ak => ?_⟩
    rw [eF] at ak
    obtain rfl := ak.ts0
    wtm_at "go"
    have e05 := e04.trans e5
    refine ⟨po, tl, [], [f], rfl, SqL.of (e4.trans e5 _ _ s_po), SqL.of (e05 _ _ htl), by first | decide | (show 0 ≤ 1000; decide) | (show 1 ≤ 1000; decide), by first | decide | (show 1 ≤ 1000; decide) | (show 2 ≤ 1000; decide), fun pf ts2 fs H6 npf e6 kp sf prs => ?_⟩
    wtm_at "go"
    have e06 := e05.trans e6
    obtain rfl := Pk.kept_nil kp
    have et2 : ts2 = [] := List.length_eq_zero_iff.mp prs.len
    subst et2
    refine ⟨⟨_, SqL.of sf⟩, Pk.lc_unr 0 fun q7 n_q7 => ?_⟩
    generalize q_q7 : upd _ q7 _ = H7
    have x_H7 := Pk.lay_ex n_q7 q_q7
    have s_q7 := Pk.lay_at q_q7
    clear q_q7
    first | refine Pk.lw_end (Pk.endL (SqL.of (x_H7 _ _ sf)) (Nat.le_refl _) ?_) | refine Pk.endL (SqL.of (x_H7 _ _ sf)) (Nat.le_refl _) ?_
    have s7 : H7 q7 = some (.lst []) := s_q7
    have e67 : Pk.Ex H6 H7 := x_H7
    wtm_at "go"
    have s57 := e6.trans e67 _ _ s5
    refine ⟨p5, _, rfl, .inl (SqL.of s57), ?_⟩
    wtm_at "go"
    refine ⟨by first | decide | (show -(2 ^ 62) ≤ (1 : Int); decide) | (show -(2 ^ 62) ≤ (0 : Int); decide), by first | decide | (show (1 : Int) < 2 ^ 62; decide) | (show (0 : Int) < 2 ^ 62; decide), Pk.lc_unr 0 fun q8 n_q8 => ?_⟩
    generalize q_q8 : upd _ q8 _ = H8
    have x_H8 := Pk.lay_ex n_q8 q_q8
    have s_q8 := Pk.lay_at q_q8
    clear q_q8
    first | refine Pk.lw_end (Pk.endR (by first | decide | (show 1 ≤ 1; decide) | (show 0 ≤ 0; decide)) ?_) | refine Pk.endR (by first | decide | (show 1 ≤ 1; decide) | (show 0 ≤ 0; decide)) ?_
    have s8 : H8 q8 = some (.lst []) := s_q8
    have e78 : Pk.Ex H7 H8 := x_H8
    wtm_at "go"
    have e58 : Pk.Ex H5 H8 := e6.trans (e67.trans e78)
    have e08 := e05.trans e58
    refine Pk.rd_ins (e08 _ _ hi) rfl ?_
    wtm_at "go"
    refine ⟨n, f, p5, tl, pf, [], false, rfl, .inl ⟨rfl, e58 _ _ s5, SqL.of (e08 _ _ htl), (e67.trans e78) _ _ sf, rfl⟩, fun p9 pt u H9 e9 np9 s9 spt hu => ?_⟩
    have eu : u = .non := by
      rcases hu with ⟨_, e⟩ | ⟨z, _⟩
      · exact e
      · cases z
    subst eu
    wtm_at "go"
    have e09 := e08.trans e9
    refine ⟨_, _, _, _, _, _, _, _, _, n, f, p9, q8, pt, _, false, rfl, d.ex e09, hn, hL, s9, spt, rfl, e9 _ _ s8, (fun z => nomatch z), fun ad g => Pk.two_first (r := ⟨n, f, false, ad, p9, q8⟩) d.two eF rfl enf g, fun ad kv1 H10 fr d10 => ?_⟩
    wtm_at "go"
    exact q ⟨n, f, false, ad, p9, q8⟩ kv1 H10 rfl rfl rfl (e08.back np9) ((e05.trans (e6.trans e67)).back n_q8) (fun b o h1 h2 ho => fr b o h1 h2 (e09 _ _ ho)) d10
  · have eR : R = [x] := by
      rcases hR with ⟨_, e⟩ | ⟨z, _⟩
      · rw [e, eF]
      · exact absurd rfl z
    subst eR
    obtain ⟨t0, rfl, rt0⟩ := al.ts1
    have twf := d.two f
    rw [eF] at twf
    have hx : x.up = false ∧ x.nm = f ∧ x.fl = f := by
      cases twf with
      | one _ h1 h2 h3 => exact ⟨h1, h2, h3⟩
    obtain ⟨hxu, hxn, hxf⟩ := hx
    have hxL : x ∈ L := (Pk.ofF_mem.mp (by rw [eF]; exact List.mem_singleton.mpr rfl : x ∈ Pk.ofF f L)).1
    refine ⟨⟨_, SqL.of s2⟩, Pk.lc_unr 1 fun po n_po => ?_⟩
    generalize q_po : upd _ po _ = H3a
    have x_H3a := Pk.lay_ex n_po q_po
    have s_poa := Pk.lay_at q_po
    clear q_po
    refine Pk.lw_go (Pk.turnL (SqL.of (x_H3a _ _ s2)) (x := .ref t0) rfl ?_)
    wtm_at "go"
    refine ⟨rfl, ?_⟩
    wtm_at "go"
    refine Pk.rd_ixT (SqT.of (x_H3a _ _ rt0)) (Pk.at_nat (k := 2) rfl) ?_
    refine ⟨[], s_poa, Pk.line_lt (by decide), ?_⟩
    generalize q_H3 : upd _ po _ = H3
    have s_H3 := Pk.lay_at q_H3
    have m_H3 := Pk.lay_mut q_H3
    clear q_H3
    have x_H3 : Pk.Ex H2 H3 := x_H3a.mut2 n_po m_H3
    have s_po : H3 po = some (.lst [V.str f]) := by rw [s_H3, hxf]; rfl
    first | refine Pk.lw_end (Pk.endL (SqL.of (x_H3 _ _ s2)) (Nat.le_refl _) ?_) | refine Pk.endL (SqL.of (x_H3 _ _ s2)) (Nat.le_refl _) ?_
    wtm_at "go"
    have e3 : Pk.Ex H H3 := e1.trans (e2.trans x_H3)
    have tl3 := e3 _ _ htl
    have tk := gf.tok
    have sh1 : SeqAt.shaped (.list (List.map PyData.str ([f] : List Str))) = true := Pk.shaped_strs (by intro t ht; simp at ht; try (subst ht; exact tk))
    have sh2 : SeqAt.shaped (.list (List.map PyData.str ([f, f] : List Str))) = true := Pk.shaped_strs (by intro t ht; simp at ht; subst ht; exact tk)
    refine Pk.rd_eqNo (.lst (SqL.of s_po) (Pk.dp_strs [f])) (.lst (SqL.of tl3) (Pk.dp_strs [f, f])) sh1 sh2 (by simp [PyData.eqv, PyData.eqvAll]) ?_
    wtm_at "go"
    refine Pk.rd_ins (e3 _ _ hi) rfl ?_
    wtm_at "go"
    refine ⟨_, _, _, _, _, _, _, _, _, _, rfl, d.ex e3, hs, fun p4 L' H4 e4 hc4 s4 => ?_⟩
    have eL : L' = L := by
      rcases hc4 with ⟨_, e⟩ | ⟨z, _⟩
      · exact e
      · exact absurd rfl z
    subst eL
    wtm_at "go"
    have e04 := e3.trans e4
    have d4 := d.ex e04
    refine ⟨p4, L', f, rfl, SqL.of s4, d4.pats, d4.lL, d4.two f, fun p5 ks H5 e5 s5 ak => ?_⟩
    rw [eF] at ak
    obtain ⟨k0, rfl, kk0⟩ := ak.ts1
    wtm_at "go"
    have e05 := e04.trans e5
    refine ⟨po, tl, [f], [f, f], rfl, SqL.of (e4.trans e5 _ _ s_po), SqL.of (e05 _ _ htl), by first | decide | (show 0 ≤ 1000; decide) | (show 1 ≤ 1000; decide), by first | decide | (show 1 ≤ 1000; decide) | (show 2 ≤ 1000; decide), fun pf ts2 fs H6 npf e6 kp sf prs => ?_⟩
    wtm_at "go"
    have e06 := e05.trans e6
    obtain rfl := Pk.kept_one kp
    obtain ⟨pp, epp, hpp⟩ := prs.at_ 0 0 0 rfl
    have et2 : ts2 = [pp] := by
      have z := prs.len
      cases ts2 with
      | nil => cases epp
      | cons b r =>
        cases epp
        have y : r = [] := List.length_eq_zero_iff.mp (by simpa using z)
        rw [y]
    subst et2
    refine ⟨⟨_, SqL.of sf⟩, Pk.lc_unr 1 fun q7 n_q7 => ?_⟩
    generalize q_q7 : upd _ q7 _ = H7a
    have x_H7a := Pk.lay_ex n_q7 q_q7
    have s_q7 := Pk.lay_at q_q7
    clear q_q7
    refine Pk.lw_go (Pk.turnL (SqL.of (x_H7a _ _ sf)) (x := .ref pp) rfl ?_)
    wtm_at "go"
    refine ⟨rfl, ?_⟩
    wtm_at "go"
    refine Pk.rd_ixT (SqT.of (x_H7a _ _ hpp)) (Pk.at_nat (k := 0) rfl) ?_
    refine ⟨[], s_q7, Pk.line_lt (by decide), ?_⟩
    generalize q_H7 : upd _ q7 _ = H7
    have s_H7 := Pk.lay_at q_H7
    have m_H7 := Pk.lay_mut q_H7
    clear q_H7
    have e67 : Pk.Ex H6 H7 := x_H7a.mut2 n_q7 m_H7
    have s7 : H7 q7 = some (.lst [V.int 0]) := s_H7
    first | refine Pk.lw_end (Pk.endL (SqL.of (e67 _ _ sf)) (Nat.le_refl _) ?_) | refine Pk.endL (SqL.of (e67 _ _ sf)) (Nat.le_refl _) ?_
    wtm_at "go"
    have s57 := e6.trans e67 _ _ s5
    refine ⟨p5, _, rfl, .inl (SqL.of s57), ?_⟩
    wtm_at "go"
    refine ⟨by first | decide | (show -(2 ^ 62) ≤ (1 : Int); decide) | (show -(2 ^ 62) ≤ (0 : Int); decide), by first | decide | (show (1 : Int) < 2 ^ 62; decide) | (show (0 : Int) < 2 ^ 62; decide), Pk.lc_unr 1 fun q8 n_q8 => ?_⟩
    generalize q_q8 : upd _ q8 _ = H8
    have x_H8 := Pk.lay_ex n_q8 q_q8
    have s_q8 := Pk.lay_at q_q8
    clear q_q8
    refine Pk.lw_go (Pk.turnR (by first | decide | (show 0 < 1; decide)) ?_)
    wtm_at "go"
    refine ⟨rfl, ?_⟩
    wtm_at "go"
    refine ⟨q7, _, rfl, .inl (SqL.of (x_H8 _ _ s7)), rfl, rfl, ?_⟩
    rw [if_pos rfl]
    wtm_at "go"
    refine Pk.rd_F ?_
    first | refine Pk.lw_end (Pk.endR (by first | decide | (show 1 ≤ 1; decide) | (show 0 ≤ 0; decide)) ?_) | refine Pk.endR (by first | decide | (show 1 ≤ 1; decide) | (show 0 ≤ 0; decide)) ?_
    have s8 : H8 q8 = some (.lst []) := s_q8
    have e78 : Pk.Ex H7 H8 := x_H8
    wtm_at "go"
    have e58 : Pk.Ex H5 H8 := e6.trans (e67.trans e78)
    have e08 := e05.trans e58
    refine Pk.rd_ins (e08 _ _ hi) rfl ?_
    wtm_at "go"
    refine ⟨n, f, p5, tl, pf, [k0], true, rfl, .inr ⟨rfl, k0, pp, e58 _ _ s5, SqL.of (e08 _ _ htl), (e67.trans e78) _ _ sf, (e67.trans e78) _ _ hpp, rfl⟩, fun p9 pt u H9 e9 np9 s9 spt hu => ?_⟩
    have eu : u = .ref k0 := by
      rcases hu with ⟨z, _⟩ | ⟨_, t, e1, e2⟩
      · cases z
      · cases e1
        exact e2
    subst eu
    have kk9 : H9 k0 = some (.tup [.str f, .int 0]) := by
      have z := (e58.trans e9) _ _ kk0
      rw [hxn] at z
      exact z
    wtm_at "go"
    have e09 := e08.trans e9
    refine ⟨_, _, _, _, _, _, _, _, _, n, f, p9, q8, pt, _, true, rfl, d.ex e09, hn, hL, s9, spt, ⟨k0, rfl, kk9⟩, e9 _ _ s8, fun _ => ⟨⟨x, hxL, hxn, hxu⟩, fun z => hn (by rw [← z, ← hxn]; exact List.mem_map.mpr ⟨x, hxL, rfl⟩)⟩, fun ad g => Pk.two_second (r := ⟨n, f, true, ad, p9, q8⟩) d.two eF rfl hn g, fun ad kv1 H10 fr d10 => ?_⟩
    wtm_at "go"
    exact q ⟨n, f, true, ad, p9, q8⟩ kv1 H10 rfl rfl rfl (e08.back np9) ((e05.trans (e6.trans e67)).back n_q8) (fun b o h1 h2 ho => fr b o h1 h2 (e09 _ _ ho)) d10
end
end PkC
namespace PkC
open PySem PySem.Spec PyProof.Rows L2
theorem sc_law_cell_at : FnScope ["script", "k"] ["script", "k"] (defScope s_law_cell_at) := ⟨rfl, rfl, rfl, by decide +kernel, rfl, by decide +kernel, by decide +kernel⟩
def cellAt (ns : List Int) (k : Int) : Int := if h : k < (ns.length : Int) then (if h2 : k.toNat < ns.length then ns[k.toNat] else 0) else 0
/-- a cell of the script, or nought -/
def sp_law_cell_at (K : PySem.W.Frag) : Sp := fun vs H Q _ => ∃ (a : Addr) (ns : List Int) (k : Int), vs = [.ref a, .int k] ∧ SqL K H a (ns.map V.int) ∧ 0 ≤ k ∧ Q (.int (cellAt ns k)) H
theorem sp_law_cell_at_len {K : PySem.W.Frag} {vs : List V} {H : Hp} {Q : VK} {E : XK} (h : sp_law_cell_at K vs H Q E) : vs.length = 2 := by
  obtain ⟨_, _, _, rfl, _⟩ := h
  rfl
section
variable {P : Program} {w : World} {K : PySem.W.Frag} {mg : Str → Option Value} {base : Heap}
theorem ok_law_cell_at (T : Txt K mg) : Pk.Ok P w K mg base CX0 1 (He.fAd K ("_law_cell_at", none)) ["script", "k"] (sp_law_cell_at K) := by
  obtain ⟨fd, F⟩ := T.F_law_cell_at
  refine ⟨fd, F.ok sc_law_cell_at ?len ?body, F.bindsN fun _ _ _ _ _ _ us hl => match us, hl with | [_, _], _ => rfl⟩
  case len => exact fun vs H Q E h => sp_law_cell_at_len h
  intro cdv A outer s H vs Q E hr h
  have hu := hu_of hr
  have hu64 := hr.units
  have hu65 := Pk.units65 hr
  refine ⟨_, PSs.nox ((pss_cons (ps_if (pt_cmpR op_lt (pv 1) (pe_callB (Pk.lenK K) (by rfl) T.b_len Pk.bt_len (pa_cons (pv 0) pa_nil)) (nomark _)) (pss_one (ps_ret (pe_ix (Pk.ixL K) (pv 0) (pv 1) (fun _ _ => rfl)))) pss_nil)
      (pss_one (ps_ret pe_int)))), ?_⟩

  obtain ⟨a, ns, k, rfl, hS, h0, q⟩ := h
  unfold cellAt at q
  wtm_at "go"
  refine Pk.rd_dec (fun c => ?_) (fun c => ?_)
  · rw [List.length_map] at c
    have c2 : k.toNat < ns.length := by omega
    rw [dif_pos c, dif_pos c2] at q
    wtm_at "go"
    refine Pk.rd_ixL hS (Pk.at_map h0 c2) ?_
    wtm_at "go"
    exact q
  · rw [List.length_map] at c
    rw [dif_neg c] at q
    wtm_at "go"
    exact q
end
end PkC
namespace PkC
open PySem PySem.Spec PyProof.Rows L2
theorem sc_law_name : FnScope ["cell", "k", "signs", "size", "base", "far", "found", "j"] ["cell", "k"] (defScope s_law_name) := ⟨rfl, rfl, rfl, by decide +kernel, rfl, by decide +kernel, by decide +kernel⟩
def sgAt (i : Int) : Nat := Pk.SG.cps.toList.getD (i % 36).toNat 0
theorem sgAt_at (i : Int) : atI Pk.SG.cps.toList (i % 36) = some (sgAt i) ∧ sgAt i ∈ Pk.SG.cps.toList := by
  have h0 := Int.emod_nonneg i (show (36 : Int) ≠ 0 by decide)
  have h1 := Int.emod_lt_of_pos i (show (0 : Int) < 36 by decide)
  have hn : (i % 36).toNat < Pk.SG.cps.toList.length := by rw [Pk.SG_size]; omega
  have e : sgAt i = Pk.SG.cps.toList[(i % 36).toNat] := by
    unfold sgAt
    rw [List.getD_eq_getElem?_getD, List.getElem?_eq_getElem hn]
    rfl
  rw [e]
  exact ⟨Pk.at_int h0 (List.getElem?_eq_getElem hn), List.getElem_mem hn⟩
theorem SG_inj : ∀ a b : Fin 36, Pk.SG.cps.toList.getD a.val 0 = Pk.SG.cps.toList.getD b.val 0 → a = b := by decide +kernel
theorem sgAt_inj {i j : Int} (h : sgAt i = sgAt j) : i % 36 = j % 36 := by
  have i0 := Int.emod_nonneg i (show (36 : Int) ≠ 0 by decide)
  have i1 := Int.emod_lt_of_pos i (show (0 : Int) < 36 by decide)
  have j0 := Int.emod_nonneg j (show (36 : Int) ≠ 0 by decide)
  have j1 := Int.emod_lt_of_pos j (show (0 : Int) < 36 by decide)
  have z := SG_inj ⟨(i % 36).toNat, by omega⟩ ⟨(j % 36).toNat, by omega⟩ h
  have y := congrArg Fin.val z
  simp only at y
  omega
def nsz (c : Int) : Int := 1 + c % 12
def nmI (c k : Int) (j : Nat) : Int := if (j : Int) = c / 12 % nsz c then k + c / 144 else c / 144 + 5 * (j : Int) + c / 5184 % 2 * k * 7
def nmP (c k : Int) (n : Nat) : Str := ⟨((List.range n).map fun j => sgAt (nmI c k j)).toArray⟩
def nmF (c k : Int) : Str := nmP c k (nsz c).toNat
theorem nsz_lo (c : Int) : 1 ≤ nsz c ∧ nsz c ≤ 12 := by
  have m0 := Int.emod_nonneg c (show (12 : Int) ≠ 0 by decide)
  have m1 := Int.emod_lt_of_pos c (show (0 : Int) < 12 by decide)
  unfold nsz
  omega
theorem nmP_list (c k : Int) (n : Nat) : (nmP c k n).cps.toList = (List.range n).map fun j => sgAt (nmI c k j) := rfl
theorem nmP_len (c k : Int) (n : Nat) : (nmP c k n).length = n := by
  rw [← Pk.str_len, nmP_list, List.length_map, List.length_range]
theorem nmP_succ (c k : Int) (n : Nat) : nmP c k n ++ (⟨#[sgAt (nmI c k n)]⟩ : Str) = nmP c k (n + 1) := by
  have e : (nmP c k n ++ (⟨#[sgAt (nmI c k n)]⟩ : Str)).cps.toList = (nmP c k (n + 1)).cps.toList := by
    rw [Pk.str_app, nmP_list, nmP_list, List.range_succ, List.map_append]
    rfl
  generalize nmP c k n ++ (⟨#[sgAt (nmI c k n)]⟩ : Str) = x at e
  generalize nmP c k (n + 1) = y at e
  cases x with
  | mk a =>
    cases y with
    | mk b => rw [show a = b from Array.toList_inj.mp e]
theorem nmF_good (c k : Int) : Pk.Good (nmF c k) := by
  have z := nsz_lo c
  refine ⟨?_, ?_, fun d hd => ?_⟩
  · unfold nmF
    rw [nmP_len]
    omega
  · unfold nmF
    rw [nmP_len]
    omega
  · unfold nmF at hd
    rw [nmP_list] at hd
    obtain ⟨j, _, rfl⟩ := List.mem_map.mp hd
    exact (sgAt_at _).2
theorem nmF_inj {c k l : Int} (k0 : 0 ≤ k) (k1 : k < 36) (l0 : 0 ≤ l) (l1 : l < 36) (h : nmF c k = nmF c l) : k = l := by
  have z := nsz_lo c
  have p0 := Int.emod_nonneg (c / 12) (show nsz c ≠ 0 by omega)
  have p1 := Int.emod_lt_of_pos (c / 12) (show 0 < nsz c by omega)
  have e : (nmF c k).cps.toList[(c / 12 % nsz c).toNat]? = (nmF c l).cps.toList[(c / 12 % nsz c).toNat]? := by rw [h]
  unfold nmF at e
  have hn : (c / 12 % nsz c).toNat < (List.range (nsz c).toNat).length := by rw [List.length_range]; omega
  rw [nmP_list, nmP_list, List.getElem?_map, List.getElem?_map, List.getElem?_eq_getElem hn, List.getElem_range] at e
  have e2 : sgAt (nmI c k (c / 12 % nsz c).toNat) = sgAt (nmI c l (c / 12 % nsz c).toNat) := Option.some.inj e
  have at_ : (((c / 12 % nsz c).toNat : Nat) : Int) = c / 12 % nsz c := by omega
  unfold nmI at e2
  rw [if_pos at_, if_pos at_] at e2
  have e3 := sgAt_inj e2
  omega
/-- the name -/
def sp_law_name (K : PySem.W.Frag) : Sp := fun vs H Q _ => ∃ (c k : Int), vs = [.int c, .int k] ∧ Q (.str (nmF c k)) H
theorem sp_law_name_len {K : PySem.W.Frag} {vs : List V} {H : Hp} {Q : VK} {E : XK} (h : sp_law_name K vs H Q E) : vs.length = 2 := by
  obtain ⟨_, _, rfl, _⟩ := h
  rfl
section
variable {P : Program} {w : World} {K : PySem.W.Frag} {mg : Str → Option Value} {base : Heap}
theorem ok_law_name (T : Txt K mg) : Pk.Ok P w K mg base CX0 1 (He.fAd K ("_law_name", none)) ["cell", "k"] (sp_law_name K) := by
  obtain ⟨fd, F⟩ := T.F_law_name
  refine ⟨fd, F.ok sc_law_name ?len ?body, F.bindsN fun _ _ _ _ _ _ us hl => match us, hl with | [_, _], _ => rfl⟩
  case len => exact fun vs H Q E h => sp_law_name_len h
  intro cdv A outer s H vs Q E hr h
  have hu := hu_of hr
  have hu64 := hr.units
  have hu65 := Pk.units65 hr
  refine ⟨_, PSs.nox ((pss_cons (ps_set (i := 2) sc_law_name.nd rfl (Or.inl rfl) pe_str)
      (pss_cons (ps_set (i := 3) sc_law_name.nd rfl (Or.inl rfl) (pe_op op_add pe_int (pe_op op_mod (pv 0) pe_int)))
      (pss_cons (ps_set (i := 4) sc_law_name.nd rfl (Or.inl rfl) (pe_op op_fdiv (pv 0) pe_int))
      (pss_cons (ps_set (i := 5) sc_law_name.nd rfl (Or.inl rfl) (pe_op op_mul (pe_op op_mul (pe_op op_mod (pe_op op_fdiv (pv 0) pe_int) pe_int) (pv 1)) pe_int))
      (pss_cons (ps_set (i := 6) sc_law_name.nd rfl (Or.inl rfl) pe_str)
      (pss_cons (ps_for PassesOwn.never rfl (pi_range1 rfl T.b_range (pa_cons (pv 3) pa_nil)) (pg_name (i := 7) sc_law_name.nd rfl (Or.inl rfl)) (pss_one (ps_if (pt_cmpR op_eq (pv 7) (pe_op op_mod (pe_op op_fdiv (pv 0) pe_int) (pv 3)) (nomark _)) (pss_one (ps_set (i := 6) sc_law_name.nd rfl (Or.inl rfl) (pe_op op_add_str (pv 6) (pe_ix ix_str (pv 2) (pe_op op_mod (pe_op op_add (pv 1) (pv 4)) pe_int) (fun _ _ => rfl))))) (pss_one (ps_set (i := 6) sc_law_name.nd rfl (Or.inl rfl) (pe_op op_add_str (pv 6) (pe_ix ix_str (pv 2) (pe_op op_mod (pe_op op_add (pe_op op_add (pv 4) (pe_op op_mul pe_int (pv 7))) (pv 5)) pe_int) (fun _ _ => rfl))))))))
      (pss_one (ps_ret (pv 6)))))))))), ?_⟩

  obtain ⟨c, k, rfl, q⟩ := h
  have zz := nsz_lo c
  have zc : (1 : Int) + c % 12 = nsz c := rfl
  wtm_at "go"
  rw [zc]
  refine ⟨by omega, by omega, for_range (lo := 0) (n := (nsz c).toNat) (fun i σ H' => H' = H ∧ ∃ (v : Option V), σ = [some (.int c), some (.int k), some (.str Pk.SG), some (.int (nsz c)), some (.int (c / 144)), some (.int (c / 5184 % 2 * k * 7)), some (.str (nmP c k i)), v]) ?_ ?_ ?_⟩
  · exact ⟨rfl, none, rfl⟩
  · rintro i σ H' hi ⟨rfl, v, rfl⟩
    have li : (nmP c k i).length ≤ 12 := by rw [nmP_len]; omega
    have e0 : (0 : Int) + (i : Int) = (i : Int) := by omega
    rw [e0]
    have sgl : Pk.SG.length ≤ sizeLine := by rw [Pk.SG_len]; exact Pk.line_le (by decide)
    wtm_at "go"
    refine Pk.rd_dec (fun cj => ?_) (fun cj => ?_)
    · wtm_at "go"
      have en : nmI c k i = k + c / 144 := by
        unfold nmI
        rw [if_pos cj]
      have at1 := (sgAt_at (nmI c k i)).1
      rw [en] at at1
      refine Pk.rd_ixS sgl at1 ?_
      refine ⟨_, _, rfl, rfl, Pk.line_le (by show (nmP c k i).length + 1 ≤ 100000; omega), ?_⟩
      wtm_at "go"
      rw [← en, nmP_succ]
      exact ⟨rfl, _, rfl⟩
    · wtm_at "go"
      have en : nmI c k i = c / 144 + 5 * (i : Int) + c / 5184 % 2 * k * 7 := by
        unfold nmI
        rw [if_neg cj]
      have at1 := (sgAt_at (nmI c k i)).1
      rw [en] at at1
      refine Pk.rd_ixS sgl at1 ?_
      refine ⟨_, _, rfl, rfl, Pk.line_le (by show (nmP c k i).length + 1 ≤ 100000; omega), ?_⟩
      wtm_at "go"
      rw [← en, nmP_succ]
      exact ⟨rfl, _, rfl⟩
  · rintro σ H' ⟨rfl, v, rfl⟩
    wtm_at "go"
    exact q
end
end PkC
namespace PkC
open PySem PySem.Spec PyProof.Rows L2
theorem sc_law_names_are : FnScope ["found", "due", "name"] ["found", "due"] (defScope s_law_names_are) := ⟨rfl, rfl, rfl, by decide +kernel, rfl, by decide +kernel, by decide +kernel⟩
/-- the very names -/
def sp_law_names_are (K : PySem.W.Frag) : Sp := fun vs H Q _ => ∃ (p q : Addr) (ns : List Str), vs = [.ref p, .ref q] ∧ H p = some (.lst (ns.map V.str)) ∧ H q = some (.lst (ns.map V.str)) ∧ (∀ t ∈ ns, Pk.TOk t) ∧ Q (.bl true) H
theorem sp_law_names_are_len {K : PySem.W.Frag} {vs : List V} {H : Hp} {Q : VK} {E : XK} (h : sp_law_names_are K vs H Q E) : vs.length = 2 := by
  obtain ⟨_, _, _, rfl, _⟩ := h
  rfl
section
variable {P : Program} {w : World} {K : PySem.W.Frag} {mg : Str → Option Value} {base : Heap}
theorem ok_law_names_are (T : Txt K mg) : Pk.Ok P w K mg base CX0 1 (He.fAd K ("_law_names_are", none)) ["found", "due"] (sp_law_names_are K) := by
  obtain ⟨fd, F⟩ := T.F_law_names_are
  refine ⟨fd, F.ok sc_law_names_are ?len ?body, F.bindsN fun _ _ _ _ _ _ us hl => match us, hl with | [_, _], _ => rfl⟩
  case len => exact fun vs H Q E h => sp_law_names_are_len h
  intro cdv A outer s H vs Q E hr h
  have hu := hu_of hr
  have hu64 := hr.units
  have hu65 := Pk.units65 hr
  refine ⟨_, PSs.nox ((pss_cons (ps_if (PW.pt (pw_or (pt_not (pt_val (pe_callB (Pk.isiK K) (by rfl) T.b_isinstance Pk.bt_isinstance (pa_cons (pv 0) (pa_cons (pe_bltn (v := .ty "list") (by rfl) T.b_list Pk.bt_list rfl) pa_nil))))) (pw_or1 (pt_cmpR op_ne (pe_callB (Pk.lenK K) (by rfl) T.b_len Pk.bt_len (pa_cons (pv 0) pa_nil)) (pe_callB (Pk.lenK K) (by rfl) T.b_len Pk.bt_len (pa_cons (pv 1) pa_nil)) (nomark _))))) (pss_one (ps_ret pe_bl)) pss_nil)
      (pss_cons (ps_for PassesOwn.never rfl (Pk.piL K (pv 0)) (pg_name (i := 2) sc_law_names_are.nd rfl (Or.inl rfl)) (pss_one (ps_if (pt_not (pt_val (pe_callB (Pk.isiK K) (by rfl) T.b_isinstance Pk.bt_isinstance (pa_cons (pv 2) (pa_cons (pe_bltn (v := .ty "str") (by rfl) T.b_str Pk.bt_str rfl) pa_nil))))) (pss_one (ps_ret pe_bl)) pss_nil)))
      (pss_one (ps_ret (pe_cmpR (Pk.eqDK K hu64) (pv 0) (pv 1) (nomark _))))))), ?_⟩
  obtain ⟨p, q, ns, rfl, hp, hq, ht, qq⟩ := h
  have sp := SqL.of (K := K) hp
  have sq := SqL.of (K := K) hq
  wtm_at "go"
  refine ⟨_, _, _, _, _, rfl, .ty "list", .base (.lst hp), kit_ty (a := "list") (b := "list") (r := true) (by decide +kernel), ?_⟩
  wtm_at "go"
  refine Pk.rd_nyes rfl ?_
  wtm_at "go"
  refine ⟨⟨_, sp⟩, for_list (K := K) (a := p) (xs := ns.map V.str) (fun i σ H' => H' = H ∧ ∃ v : Option V, σ = [some (.ref p), some (.ref q), v]) ⟨rfl, none, rfl⟩ (fun i σ H' _ z => by rw [z.1]; exact sp) ?_ ?_⟩
  · rintro i x σ H' hx ⟨rfl, v, rfl⟩
    rw [List.getElem?_map] at hx
    cases e : ns[i]? with
    | none =>
      rw [e] at hx
      cases hx
    | some t =>
      rw [e] at hx
      cases hx
      wtm_at "go"
      refine ⟨_, _, _, _, _, rfl, .ty "str", .base (.str t), kit_ty (a := "str") (b := "str") (r := true) (by decide +kernel), ?_⟩
      wtm_at "go"
      exact ⟨rfl, _, rfl⟩
  · rintro σ H' ⟨rfl, v, rfl⟩
    wtm_at "go"
    refine Pk.rd_eqSelf (.lst sp (Pk.dp_strs _)) (.lst sq (Pk.dp_strs _)) (Pk.shaped_strs ht) ?_
    exact qq
end
end PkC
namespace PkC
open PySem PySem.Spec PyProof.Rows L2
theorem sc_law_taken : FnScope ["desk", "store", "patch", "file", "count"] ["desk", "store", "patch", "file"] (defScope s_law_taken) := ⟨rfl, rfl, rfl, by decide +kernel, rfl, by decide +kernel, by decide +kernel⟩
/-- both are refused -/
def sp_law_taken (K : PySem.W.Frag) : Sp := fun vs H Q _ => ∃ (a m h b0 : Addr) (f0 : Str) (kvs : List (Key × V)) (ns : List Str) (kv0 : List (Key × V)) (L : List Pk.PR) (s n f : Str), vs = [.ref a, .str s, .str n, .str f] ∧ Pk.DeskF K H a m h b0 f0 kvs ns kv0 L ∧ s ∈ ns ∧ n ∈ L.map Pk.PR.nm ∧ Pk.Good s ∧ Pk.Good n ∧ Pk.Good f ∧ ∀ (H' : Hp), Pk.Ex H H' → Q (.int 2) H'
theorem sp_law_taken_len {K : PySem.W.Frag} {vs : List V} {H : Hp} {Q : VK} {E : XK} (h : sp_law_taken K vs H Q E) : vs.length = 4 := by
  obtain ⟨_, _, _, _, _, _, _, _, _, _, _, _, rfl, _⟩ := h
  rfl
section
variable {P : Program} {w : World} {K : PySem.W.Frag} {mg : Str → Option Value} {base : Heap}
theorem ok_law_taken (T : Txt K mg) : Pk.Ok P w K mg base CX0 7 (He.fAd K ("_law_taken", none)) ["desk", "store", "patch", "file"] (sp_law_taken K) := by
  obtain ⟨fd, F⟩ := T.F_law_taken
  obtain ⟨fd_Desk_begin, G_Desk_begin, B_Desk_begin⟩ := (ok_Desk_begin (P := P) (w := w) (base := base) T).ex
  obtain ⟨fd_Desk_record, G_Desk_record, B_Desk_record⟩ := (ok_Desk_record (P := P) (w := w) (base := base) T).ex
  refine ⟨fd, F.ok sc_law_taken ?len ?body, F.bindsN fun _ _ _ _ _ _ us hl => match us, hl with | [_, _, _, _], _ => rfl⟩
  case len => exact fun vs H Q E h => sp_law_taken_len h
  intro cdv A outer s H vs Q E hr h
  have hu := hu_of hr
  have hu64 := hr.units
  have hu65 := Pk.units65 hr
  refine ⟨_, PSs.nox ((pss_cons (ps_set (i := 4) sc_law_taken.nd rfl (Or.inl rfl) pe_int) (pss_cons (L2N.ps_try_many (Wout := fun _ _ _ _ => False) (l := [(_, fun _ _ _ => tAsg (tOp (rI0 fun i j => .int (i + j)) (tVar 4) (tC (.int 1))) (gName 4))]) rfl rfl Pk.takesN0 (fun W pn xe tkW _ => pss_one (ps_expr (Pk.pe_mAt (pv 0) T.c_Desk T.m_Desk_begin G_Desk_begin (hr.mono (by decide)) B_Desk_begin (L2N.passAt tkW) (pa_cons (pv 1) pa_nil)))) (L2N.HdsOk.cons ⟨rfl, rfl, .inl T.g_NameTaken⟩ (fun a oe cls d pn hz hv => pss_one (ps_set (i := 4) sc_law_taken.nd rfl (Or.inl rfl) (pe_op op_add (pv 4) pe_int))) .nil)) (pss_cons (L2N.ps_try_many (Wout := fun _ _ _ _ => False) (l := [(_, fun _ _ _ => tAsg (tOp (rI0 fun i j => .int (i + j)) (tVar 4) (tC (.int 1))) (gName 4))]) rfl rfl Pk.takesN0 (fun W pn xe tkW _ => pss_one (ps_expr (Pk.pe_mAt (pv 0) T.c_Desk T.m_Desk_record G_Desk_record (hr.mono (by decide)) B_Desk_record (L2N.passAt tkW) (pa_cons (pv 1) (pa_cons (pv 2) (pa_cons (pv 3) (pa_cons (pe_lst (pa_cons pe_str (pa_cons pe_str (pa_cons pe_str pa_nil)))) pa_nil))))))) (L2N.HdsOk.cons ⟨rfl, rfl, .inl T.g_NameTaken⟩ (fun a oe cls d pn hz hv => pss_one (ps_set (i := 4) sc_law_taken.nd rfl (Or.inl rfl) (pe_op op_add (pv 4) pe_int))) .nil)) (pss_one (ps_ret (pv 4))))))), ?_⟩

  obtain ⟨a, m, h, b0, f0, kvs, ns, kv0, L, s, n, f, rfl, d, hs, hn, gs, gn, gf, q⟩ := h
  obtain ⟨dx, hi⟩ := d.ins
  wtm_at "go"
  refine Pk.rd_ins hi rfl ?_
  wtm_at "go"
  have hv : (valV kvs (Sum.inr s : Key)).isSome = true := by
    obtain ⟨b, hb, _⟩ := d.store hs
    rw [hb]
    rfl
  refine ⟨a, m, h, dx, kvs, s, rfl, hi, d.hav, by rw [d.klen]; have := d.ln; omega, gs, fun _ => ?_, fun z => by rw [z] at hv; cases hv⟩
  refine ⟨true, T.e_NameTaken, fun _ e he => ?_, fun z => nomatch z⟩
  wtm_at "go"
  refine Pk.rd_ins hi rfl ?_
  wtm_at "go"
  refine ⟨Nat.le_of_ble_eq_true rfl, fun p0 n_p0 => ?_⟩
  generalize q_p0 : upd _ p0 _ = H0
  have x_H0 := Pk.lay_ex n_p0 q_p0
  have s_p0 := Pk.lay_at q_p0
  clear q_p0
  wtm_at "go"
  refine ⟨_, _, _, _, _, _, _, _, _, s, n, f, p0, rfl, d.ex x_H0, hs, gn, gf, fun _ => ?_, fun z => absurd hn z⟩
  refine ⟨true, T.e_NameTaken, fun _ e he => ?_, fun z => nomatch z⟩
  wtm_at "go"
  exact q _ x_H0
end
end PkC
namespace PkC
open PySem PySem.Spec PyProof.Rows L2
theorem sc_law : FnScope ["script", "desk", "first", "stores", "patches", "files", "k", "name", "way"] ["script"] (defScope s_law) := ⟨rfl, rfl, rfl, by decide +kernel, rfl, by decide +kernel, by decide +kernel⟩
/-- the law, at every script -/
def sp_law (K : PySem.W.Frag) : Sp := fun vs H Q _ => ∃ (a : Addr) (ns : List Int), vs = [.ref a] ∧ SqL K H a (ns.map V.int) ∧ ∀ H', Q (.bl true) H'
theorem sp_law_len {K : PySem.W.Frag} {vs : List V} {H : Hp} {Q : VK} {E : XK} (h : sp_law K vs H Q E) : vs.length = 1 := by
  obtain ⟨_, _, rfl, _⟩ := h
  rfl
/-- the desk and the law's three lists; H0: the heap at the start -/
structure LS (K : PySem.W.Frag) (H0 H : Hp) (a m h b0 : Addr) (f0 : Str) (kvs : List (Key × V)) (ns : List Str) (kv0 : List (Key × V)) (L : List Pk.PR) (ps pp pf : Addr) (A B C : List Str) : Prop where
  d : Pk.DeskF K H a m h b0 f0 kvs ns kv0 L
  ex : Pk.Ex H0 H
  sA : H ps = some (.lst (A.map V.str))
  sB : H pp = some (.lst (B.map V.str))
  sC : H pf = some (.lst (C.map V.str))
  ap : ∀ r ∈ L, (r.pl ≠ ps ∧ r.cl ≠ ps) ∧ (r.pl ≠ pp ∧ r.cl ≠ pp) ∧ (r.pl ≠ pf ∧ r.cl ≠ pf)
  nw : H0 ps = none ∧ H0 pp = none ∧ H0 pf = none ∧ H0 m = none ∧ H0 h = none ∧ H0 b0 = none
  df : ps ≠ pp ∧ ps ≠ pf ∧ pp ≠ pf
section
variable {K : PySem.W.Frag} {H0 H H1 H2 : Hp} {a m h b0 ps pp pf b : Addr} {f0 s x : Str} {kvs kv0 kv1 : List (Key × V)} {ns A B C : List Str} {L : List Pk.PR} {r : Pk.PR}
theorem LS.go (l : LS K H0 H a m h b0 f0 kvs ns kv0 L ps pp pf A B C) (e : Pk.Ex H H1) : LS K H0 H1 a m h b0 f0 kvs ns kv0 L ps pp pf A B C :=
  ⟨l.d.ex e, l.ex.trans e, e _ _ l.sA, e _ _ l.sB, e _ _ l.sC, l.ap, l.nw, l.df⟩
theorem LS.beg (l : LS K H0 H a m h b0 f0 kvs ns kv0 L ps pp pf A B C) (hs : s ∉ ns) (hl : ns.length < 20) (nb : H b = none) (e : Pk.Ex H H1) (hb : H1 b = some (.dK [])) (e2 : ∀ c o, c ≠ h → H1 c = some o → H2 c = some o) (hv : H2 h = some (.dK (putK kvs (Sum.inr s) (.ref b)))) :
    LS K H0 H2 a m h b0 f0 (putK kvs (Sum.inr s) (.ref b)) (ns ++ [s]) kv0 L ps pp pf A B C := by
  have go : ∀ {c : Addr} {xs : List V}, H c = some (.lst xs) → H2 c = some (.lst xs) := fun {c xs} hc => e2 _ _ (by rintro rfl; rw [l.d.hav] at hc; cases hc) (e _ _ hc)
  exact ⟨l.d.begin hs hl nb hb e e2 hv, (l.ex.trans e).mut2 l.nw.2.2.2.2.1 e2, go l.sA, go l.sB, go l.sC, l.ap, l.nw, l.df⟩
theorem LS.recd (l : LS K H0 H a m h b0 f0 kvs ns kv0 L ps pp pf A B C) (fr : ∀ c o, c ≠ m → c ≠ b0 → H c = some o → H2 c = some o) (d2 : Pk.DeskF K H2 a m h b0 f0 kvs ns kv1 (L ++ [r])) (n1 : H r.pl = none) (n2 : H r.cl = none) :
    LS K H0 H2 a m h b0 f0 kvs ns kv1 (L ++ [r]) ps pp pf A B C := by
  have go : ∀ {c : Addr} {xs : List V}, H c = some (.lst xs) → H2 c = some (.lst xs) := fun {c xs} hc => fr _ _ (by rintro rfl; rw [l.d.made] at hc; cases hc) (by rintro rfl; rw [l.d.own] at hc; cases hc) hc
  have ne : ∀ {c p : Addr} {xs : List V}, H c = some (.lst xs) → H p = none → p ≠ c := fun {c p xs} hc hp z => by
    rw [z, hc] at hp
    cases hp
  refine ⟨d2, fun c o z => fr c o (ne_of_none z l.nw.2.2.2.1) (ne_of_none z l.nw.2.2.2.2.2) (l.ex _ _ z), go l.sA, go l.sB, go l.sC, fun r' hr' => ?_, l.nw, l.df⟩
  rcases List.mem_append.mp hr' with hr' | hr'
  · exact l.ap r' hr'
  · rw [List.mem_singleton] at hr'
    subst hr'
    exact ⟨⟨ne l.sA n1, ne l.sA n2⟩, ⟨ne l.sB n1, ne l.sB n2⟩, ⟨ne l.sC n1, ne l.sC n2⟩⟩
theorem LS.appA (l : LS K H0 H a m h b0 f0 kvs ns kv0 L ps pp pf A B C) (e : ∀ c o, c ≠ ps → H c = some o → H2 c = some o) (h2 : H2 ps = some (.lst (A.map V.str ++ [V.str x]))) : LS K H0 H2 a m h b0 f0 kvs ns kv0 L ps pp pf (A ++ [x]) B C :=
  ⟨l.d.mutL l.sA e fun r hr => (l.ap r hr).1, l.ex.mut2 l.nw.1 e, by rw [h2, List.map_append]; rfl, e _ _ (Ne.symm l.df.1) l.sB, e _ _ (Ne.symm l.df.2.1) l.sC, l.ap, l.nw, l.df⟩
theorem LS.appB (l : LS K H0 H a m h b0 f0 kvs ns kv0 L ps pp pf A B C) (e : ∀ c o, c ≠ pp → H c = some o → H2 c = some o) (h2 : H2 pp = some (.lst (B.map V.str ++ [V.str x]))) : LS K H0 H2 a m h b0 f0 kvs ns kv0 L ps pp pf A (B ++ [x]) C :=
  ⟨l.d.mutL l.sB e fun r hr => (l.ap r hr).2.1, l.ex.mut2 l.nw.2.1 e, e _ _ l.df.1 l.sA, by rw [h2, List.map_append]; rfl, e _ _ (Ne.symm l.df.2.2) l.sC, l.ap, l.nw, l.df⟩
theorem LS.appC (l : LS K H0 H a m h b0 f0 kvs ns kv0 L ps pp pf A B C) (e : ∀ c o, c ≠ pf → H c = some o → H2 c = some o) (h2 : H2 pf = some (.lst (C.map V.str ++ [V.str x]))) : LS K H0 H2 a m h b0 f0 kvs ns kv0 L ps pp pf A B (C ++ [x]) :=
  ⟨l.d.mutL l.sC e fun r hr => (l.ap r hr).2.2, l.ex.mut2 l.nw.2.2.1 e, e _ _ l.df.2.1 l.sA, e _ _ l.df.2.2 l.sB, by rw [h2, List.map_append]; rfl, l.ap, l.nw, l.df⟩
end
/-- the names so far -/
structure LN (c : Int) (i : Nat) (ns : List Str) (L : List Pk.PR) : Prop where
  st : ns = nmF c 35 :: (List.range i).map fun k => nmF c (k : Nat)
  fi : Pk.firsts L = (List.range i).map fun k => nmF c (k : Nat)
  nm : ∀ r ∈ L, ∃ k : Nat, k < i ∧ r.fl = nmF c (k : Nat) ∧ (r.nm = nmF c (k : Nat) ∨ r.nm = nmF c (10 + (k : Nat)))
  ll : L.length ≤ 2 * i
theorem LN.store {c : Int} {i : Nat} {ns : List Str} {L : List Pk.PR} (z : LN c i ns L) (hi : i < 5) : nmF c (i : Nat) ∉ ns := by
  rw [z.st]
  intro w
  rcases List.mem_cons.mp w with w | w
  · have := nmF_inj (by omega) (by omega) (by omega) (by omega) w
    omega
  · obtain ⟨k, hk, e⟩ := List.mem_map.mp w
    rw [List.mem_range] at hk
    have := nmF_inj (by omega) (by omega) (by omega) (by omega) e
    omega
theorem LN.patch {c : Int} {i : Nat} {ns : List Str} {L : List Pk.PR} (z : LN c i ns L) (hi : i < 5) : nmF c (i : Nat) ∉ L.map Pk.PR.nm := by
  intro w
  obtain ⟨r, hr, e⟩ := List.mem_map.mp w
  obtain ⟨k, hk, _, e2 | e2⟩ := z.nm r hr
  · have := nmF_inj (by omega) (by omega) (by omega) (by omega) (e.symm.trans e2)
    omega
  · have := nmF_inj (by omega) (by omega) (by omega) (by omega) (e.symm.trans e2)
    omega
theorem LN.patch2 {c : Int} {i : Nat} {ns : List Str} {L : List Pk.PR} (z : LN c i ns L) (hi : i < 5) : nmF c (10 + (i : Nat)) ∉ L.map Pk.PR.nm := by
  intro w
  obtain ⟨r, hr, e⟩ := List.mem_map.mp w
  obtain ⟨k, hk, _, e2 | e2⟩ := z.nm r hr
  · have := nmF_inj (by omega) (by omega) (by omega) (by omega) (e.symm.trans e2)
    omega
  · have := nmF_inj (by omega) (by omega) (by omega) (by omega) (e.symm.trans e2)
    omega
theorem LN.file {c : Int} {i : Nat} {ns : List Str} {L : List Pk.PR} (z : LN c i ns L) (hi : i < 5) : Pk.ofF (nmF c (i : Nat)) L = [] := by
  cases e : Pk.ofF (nmF c (i : Nat)) L with
  | nil => rfl
  | cons r R =>
    exfalso
    have hr : r ∈ Pk.ofF (nmF c (i : Nat)) L := by rw [e]; exact List.mem_cons_self
    obtain ⟨h1, h2⟩ := Pk.ofF_mem.mp hr
    obtain ⟨k, hk, e2, _⟩ := z.nm r h1
    have := nmF_inj (by omega) (by omega) (by omega) (by omega) (h2.symm.trans e2)
    omega
section
variable {P : Program} {w : World} {K : PySem.W.Frag} {mg : Str → Option Value} {base : Heap}
theorem ok_law (T : Txt K mg) {fd : FuncData} (F : FunD K "law" "law" (defArgs s_law) (defBody s_law) (defScope s_law) [] [] (He.fAd K ("law", none)) fd) : FnOk P w K mg base CX0 8 (He.fAd K ("law", none)) fd ["script"] (sp_law K) := by
  obtain ⟨fd_Desk_init__, G_Desk_init__, B_Desk_init__⟩ := (ok_Desk_init__ (P := P) (w := w) (base := base) T).ex
  obtain ⟨fd_law_name, G_law_name, B_law_name⟩ := (ok_law_name (P := P) (w := w) (base := base) T).ex
  obtain ⟨fd_Desk_begin, G_Desk_begin, B_Desk_begin⟩ := (ok_Desk_begin (P := P) (w := w) (base := base) T).ex
  obtain ⟨fd_law_names_are, G_law_names_are, B_law_names_are⟩ := (ok_law_names_are (P := P) (w := w) (base := base) T).ex
  obtain ⟨fd_law_cell_at, G_law_cell_at, B_law_cell_at⟩ := (ok_law_cell_at (P := P) (w := w) (base := base) T).ex
  obtain ⟨fd_Desk_record, G_Desk_record, B_Desk_record⟩ := (ok_Desk_record (P := P) (w := w) (base := base) T).ex
  obtain ⟨fd_law_taken, G_law_taken, B_law_taken⟩ := (ok_law_taken (P := P) (w := w) (base := base) T).ex
  obtain ⟨fd_Desk_files, G_Desk_files, B_Desk_files⟩ := (ok_Desk_files (P := P) (w := w) (base := base) T).ex
  obtain ⟨fd_Desk_stores, G_Desk_stores, B_Desk_stores⟩ := (ok_Desk_stores (P := P) (w := w) (base := base) T).ex
  obtain ⟨fd_Desk_patches, G_Desk_patches, B_Desk_patches⟩ := (ok_Desk_patches (P := P) (w := w) (base := base) T).ex
  refine F.ok sc_law ?len ?body
  case len => exact fun vs H Q E h => sp_law_len h
  intro cdv A outer s H vs Q E hr h
  have hu := hu_of hr
  have hu64 := hr.units
  have hu65 := Pk.units65 hr
  refine ⟨_, PSs.nox ((pss_cons (ps_set (i := 1) sc_law.nd rfl (Or.inl rfl) (pe_make0 T.m_Desk G_Desk_init__ (hr.mono (by decide)) rfl T.g_Desk B_Desk_init__ .nil pass0))
      (pss_cons (ps_set (i := 2) sc_law.nd rfl (Or.inl rfl) (pe_call G_law_name (hr.mono (by decide)) rfl T.g_law_name T.k_law_name B_law_name .nil pass0 (pa_cons (pe_op op_mod (pe_call G_law_cell_at (hr.mono (by decide)) rfl T.g_law_cell_at T.k_law_cell_at B_law_cell_at .nil pass0 (pa_cons (pv 0) (pa_cons pe_int pa_nil))) pe_int) (pa_cons pe_int pa_nil))))
      (pss_cons (ps_expr (pe_meth (pv 1) T.c_Desk T.m_Desk_begin G_Desk_begin (hr.mono (by decide)) B_Desk_begin .nil Pk.passN (pa_cons (pv 2) pa_nil)))
      (pss_cons (ps_set (i := 3) sc_law.nd rfl (Or.inl rfl) (pe_lst (pa_cons (pv 2) pa_nil)))
      (pss_cons (ps_set (i := 4) sc_law.nd rfl (Or.inl rfl) (pe_lst pa_nil))
      (pss_cons (ps_set (i := 5) sc_law.nd rfl (Or.inl rfl) (pe_lst pa_nil))
      (pss_cons (ps_for PassesOwn.never rfl (pi_range1 rfl T.b_range (pa_cons (pe_op op_add pe_int (pe_op op_mod (pe_call G_law_cell_at (hr.mono (by decide)) rfl T.g_law_cell_at T.k_law_cell_at B_law_cell_at .nil pass0 (pa_cons (pv 0) (pa_cons pe_int pa_nil))) pe_int)) pa_nil)) (pg_name (i := 6) sc_law.nd rfl (Or.inl rfl)) (pss_cons (ps_set (i := 7) sc_law.nd rfl (Or.inl rfl) (pe_call G_law_name (hr.mono (by decide)) rfl T.g_law_name T.k_law_name B_law_name .nil pass0 (pa_cons (pe_op op_mod (pe_call G_law_cell_at (hr.mono (by decide)) rfl T.g_law_cell_at T.k_law_cell_at B_law_cell_at .nil pass0 (pa_cons (pv 0) (pa_cons pe_int pa_nil))) pe_int) (pa_cons (pv 6) pa_nil))))
      (pss_cons (ps_set (i := 8) sc_law.nd rfl (Or.inl rfl) (pe_op op_mod (pe_call G_law_cell_at (hr.mono (by decide)) rfl T.g_law_cell_at T.k_law_cell_at B_law_cell_at .nil pass0 (pa_cons (pv 0) (pa_cons (pe_op op_add pe_int (pv 6)) pa_nil))) pe_int))
      (Evl.pss_cut (ps_if (pt_cmpR op_eq (pv 8) pe_int (nomark _)) (pss_cons (ps_if (pt_cmpR op_notN (pe_meth (pv 1) T.c_Desk T.m_Desk_begin G_Desk_begin (hr.mono (by decide)) B_Desk_begin .nil Pk.passN (pa_cons (pv 7) pa_nil)) pe_non (nomark _)) (pss_one (ps_ret pe_bl)) pss_nil)
      (pss_one (ps_expr (pe_bm PySem.F.plainAttrs_list PySem.F.slot_list_append PySem.F.type_list_append mt_append (pv 3) (pa_cons (pv 7) pa_nil))))) pss_nil)
      (pss_cons (ps_if (pt_cmpR op_notN (pe_meth (pv 1) T.c_Desk T.m_Desk_record G_Desk_record (hr.mono (by decide)) B_Desk_record .nil Pk.passN (pa_cons (pv 2) (pa_cons (pv 7) (pa_cons (pv 7) (pa_cons (pe_lst (pa_cons (pv 7) pa_nil)) pa_nil))))) pe_non (nomark _)) (pss_one (ps_ret pe_bl)) pss_nil)
      (pss_cons (ps_expr (pe_bm PySem.F.plainAttrs_list PySem.F.slot_list_append PySem.F.type_list_append mt_append (pv 4) (pa_cons (pv 7) pa_nil)))
      (pss_cons (ps_expr (pe_bm PySem.F.plainAttrs_list PySem.F.slot_list_append PySem.F.type_list_append mt_append (pv 5) (pa_cons (pv 7) pa_nil)))
      (Evl.pss_cut (ps_if (pt_cmpR op_gt (pv 8) pe_int (nomark _)) (pss_cons (ps_if (pt_cmpR op_notN (pe_meth (pv 1) T.c_Desk T.m_Desk_begin G_Desk_begin (hr.mono (by decide)) B_Desk_begin .nil Pk.passN (pa_cons (pv 7) pa_nil)) pe_non (nomark _)) (pss_one (ps_ret pe_bl)) pss_nil)
      (pss_one (ps_expr (pe_bm PySem.F.plainAttrs_list PySem.F.slot_list_append PySem.F.type_list_append mt_append (pv 3) (pa_cons (pv 7) pa_nil))))) pss_nil)
      (Evl.pss_cut (ps_if (pt_cmpR op_eq (pv 8) pe_int (nomark _)) (pss_cons (ps_expr (pe_bm PySem.F.plainAttrs_list PySem.F.slot_list_append PySem.F.type_list_append mt_append (pv 4) (pa_cons (pe_call G_law_name (hr.mono (by decide)) rfl T.g_law_name T.k_law_name B_law_name .nil pass0 (pa_cons (pe_op op_mod (pe_call G_law_cell_at (hr.mono (by decide)) rfl T.g_law_cell_at T.k_law_cell_at B_law_cell_at .nil pass0 (pa_cons (pv 0) (pa_cons pe_int pa_nil))) pe_int) (pa_cons (pe_op op_add pe_int (pv 6)) pa_nil))) pa_nil)))
      (pss_one (ps_if (pt_cmpR op_notN (pe_meth (pv 1) T.c_Desk T.m_Desk_record G_Desk_record (hr.mono (by decide)) B_Desk_record .nil Pk.passN (pa_cons (pv 2) (pa_cons (pe_ix (Pk.ixL K) (pv 4) (pe_un un_neg pe_int) (fun _ _ => rfl)) (pa_cons (pv 7) (pa_cons (pe_lst (pa_cons (pv 7) (pa_cons (pv 7) pa_nil))) pa_nil))))) pe_non (nomark _)) (pss_one (ps_ret pe_bl)) pss_nil))) pss_nil)
      (pss_one (ps_if (pt_cmpR op_ne (pe_call G_law_taken (hr.mono (by decide)) rfl T.g_law_taken T.k_law_taken B_law_taken .nil pass0 (pa_cons (pv 1) (pa_cons (pv 7) (pa_cons (pv 7) (pa_cons (pv 7) pa_nil))))) pe_int (nomark _)) (pss_one (ps_ret pe_bl)) pss_nil)))))))))))
      (pss_cons (ps_if (PW.pt (pw_or (pt_not (pt_val (pe_call G_law_names_are (hr.mono (by decide)) rfl T.g_law_names_are T.k_law_names_are B_law_names_are .nil pass0 (pa_cons (pe_meth0 (pv 1) T.c_Desk T.m_Desk_stores G_Desk_stores (hr.mono (by decide)) B_Desk_stores .nil pass0) (pa_cons (pv 3) pa_nil))))) (pw_or1 (pt_not (pt_val (pe_call G_law_names_are (hr.mono (by decide)) rfl T.g_law_names_are T.k_law_names_are B_law_names_are .nil pass0 (pa_cons (pe_meth0 (pv 1) T.c_Desk T.m_Desk_patches G_Desk_patches (hr.mono (by decide)) B_Desk_patches .nil pass0) (pa_cons (pv 4) pa_nil)))))))) (pss_one (ps_ret pe_bl)) pss_nil)
      (pss_one (ps_ret (pe_and (pe_call G_law_names_are (hr.mono (by decide)) rfl T.g_law_names_are T.k_law_names_are B_law_names_are .nil pass0 (pa_cons (pe_meth (pv 1) T.c_Desk T.m_Desk_files G_Desk_files (hr.mono (by decide)) B_Desk_files .nil pass0 (pa_cons (pv 2) pa_nil)) (pa_cons (pe_callB cr_sortedS (by rfl) T.b_sorted Pk.bt_sorted (pa_cons (pv 5) pa_nil)) pa_nil))) (pe_one (pe_cmpR (Pk.eqDK K hu64) (pe_meth (pv 1) T.c_Desk T.m_Desk_files G_Desk_files (hr.mono (by decide)) B_Desk_files .nil pass0 (pa_cons (pe_ix (Pk.ixL K) (pv 3) (pe_un un_neg pe_int) (fun _ _ => rfl)) pa_nil)) (pe_lst pa_nil) (nomark _))))))))))))))), ?_⟩
  obtain ⟨a, is, rfl, hS, q⟩ := h
  wtm_at "go"
  intro pd dx n_pd n_dx ndx
  generalize q_H0 : upd (upd H dx (HO.own pd)) pd _ = H0
  have i0 : H0 pd = some (.ins (He.ga K "Desk") dx []) := Pk.lay_at q_H0
  have x_H0 : Pk.Ex H H0 := by
    rw [← q_H0]
    exact (Pk.Ex.new n_dx).mut n_pd
  clear q_H0
  refine ⟨pd, dx, rfl, i0, fun m hv H1 e1 i1 m1 h1 nmh nm nh => ?_⟩
  have e01 : Pk.Ex H H1 := fun b o z => e1 b o (ne_of_none z n_pd) (x_H0 _ _ z)
  have nhv : H hv = none := x_H0.back nh
  have nmm : H m = none := x_H0.back nm
  wtm_at "go"
  refine ⟨a, is, _, rfl, e01.seqL hS, by decide, ?_⟩
  wtm_at "go"
  generalize hc : cellAt is 0 % 20736 = c
  refine ⟨c, 35, rfl, ?_⟩
  wtm_at "go"
  refine Pk.rd_ins i1 rfl ?_
  wtm_at "go"
  refine ⟨pd, m, hv, dx, [], nmF c 35, rfl, i1, h1, Nat.zero_le _, nmF_good c 35, (fun z => by cases z), fun _ b0 H2 H3 nb e2 hb2 m3 h3 => ?_⟩
  have nb0 : H b0 = none := e01.back nb
  have nbm : b0 ≠ m := by rintro rfl; rw [m1] at nb; cases nb
  have nbh : b0 ≠ hv := by rintro rfl; rw [h1] at nb; cases nb
  have nph : pd ≠ hv := by rintro rfl; rw [i1] at h1; cases h1
  have e03 : Pk.Ex H H3 := (e01.trans e2).mut2 nhv m3
  have d3 : Pk.DeskF K H3 pd m hv b0 (nmF c 35) [((Sum.inr (nmF c 35) : Key), V.ref b0)] [nmF c 35] [] [] :=
    Pk.DeskF.first ⟨dx, m3 _ _ nph (e2 _ _ i1)⟩ (m3 _ _ nmh (e2 _ _ m1)) h3 (m3 _ _ nbh hb2) nmh nbm nbh
  wtm_at "go"
  refine ⟨Nat.le_of_ble_eq_true rfl, fun ps n_ps => ?_⟩
  generalize q_ps : upd _ ps _ = H4
  have x_H4 := Pk.lay_ex n_ps q_ps
  have s_ps := Pk.lay_at q_ps
  clear q_ps
  wtm_at "go"
  refine ⟨Nat.le_of_ble_eq_true rfl, fun pp n_pp => ?_⟩
  generalize q_pp : upd _ pp _ = H5
  have x_H5 := Pk.lay_ex n_pp q_pp
  have s_pp := Pk.lay_at q_pp
  clear q_pp
  wtm_at "go"
  refine ⟨Nat.le_of_ble_eq_true rfl, fun pf n_pf => ?_⟩
  generalize q_pf : upd _ pf _ = H6
  have x_H6 := Pk.lay_ex n_pf q_pf
  have s_pf := Pk.lay_at q_pf
  clear q_pf
  wtm_at "go"
  have e36 : Pk.Ex H3 H6 := x_H4.trans (x_H5.trans x_H6)
  have n12 : ps ≠ pp := by rintro rfl; rw [s_ps] at n_pp; cases n_pp
  have n13 : ps ≠ pf := by rintro rfl; rw [x_H5 _ _ s_ps] at n_pf; cases n_pf
  have n23 : pp ≠ pf := by rintro rfl; rw [s_pp] at n_pf; cases n_pf
  have l6 : LS K H H6 pd m hv b0 (nmF c 35) [((Sum.inr (nmF c 35) : Key), V.ref b0)] [nmF c 35] [] [] ps pp pf [nmF c 35] [] [] :=
    ⟨d3.ex e36, e03.trans e36, x_H6 _ _ (x_H5 _ _ s_ps), x_H6 _ _ s_pp, s_pf, fun r hr => absurd hr List.not_mem_nil, ⟨e03.back n_ps, (e03.trans x_H4).back n_pp, (e03.trans (x_H4.trans x_H5)).back n_pf, nmm, nhv, nb0⟩, n12, n13, n23⟩
  refine ⟨a, is, _, rfl, l6.ex.seqL hS, by decide, ?_⟩
  wtm_at "go"
  have k0 := Int.emod_nonneg (cellAt is 1) (show (5 : Int) ≠ 0 by decide)
  have k1 := Int.emod_lt_of_pos (cellAt is 1) (show (0 : Int) < 5 by decide)
  generalize cellAt is 1 % 5 = nn at k0 k1 ⊢
  refine ⟨by omega, by omega, for_range (lo := 0) (n := (1 + nn).toNat) (fun i σ H' => ∃ (kvs : List (Key × V)) (ns : List Str) (kv0 : List (Key × V)) (L : List Pk.PR) (v6 v7 v8 : Option V), σ = [some (.ref a), some (.ref pd), some (.str (nmF c 35)), some (.ref ps), some (.ref pp), some (.ref pf), v6, v7, v8] ∧
    LS K H H' pd m hv b0 (nmF c 35) kvs ns kv0 L ps pp pf ns (L.map Pk.PR.nm) (Pk.firsts L) ∧ LN c i ns L) ?_ ?_ ?_⟩
  · exact ⟨_, _, _, _, _, _, _, rfl, l6, rfl, rfl, fun r hr => absurd hr List.not_mem_nil, Nat.zero_le _⟩
  · rintro i σ Ha hi ⟨kvs, ns, kv0, L, v6, v7, v8, rfl, l, ln⟩
    have hi5 : i < 5 := by omega
    have e0i : (0 : Int) + (i : Int) = ((i : Nat) : Int) := by omega
    rw [e0i]
    wtm_at "go"
    refine ⟨a, is, _, rfl, l.ex.seqL hS, by decide, ?_⟩
    wtm_at "go"
    rw [hc]
    refine ⟨c, _, rfl, ?_⟩
    wtm_at "go"
    refine ⟨a, is, _, rfl, l.ex.seqL hS, by omega, ?_⟩
    wtm_at "go"
    have w0 := Int.emod_nonneg (cellAt is (2 + (i : Int))) (show (3 : Int) ≠ 0 by decide)
    have w1 := Int.emod_lt_of_pos (cellAt is (2 + (i : Int))) (show (0 : Int) < 3 by decide)
    generalize cellAt is (2 + (i : Int)) % 3 = way at w0 w1 ⊢
    have nst := ln.store hi5
    have npt := ln.patch hi5
    have nf := ln.file hi5
    have lnb : ns.length < 20 := by
      rw [ln.st]
      simp only [List.length_cons, List.length_map, List.length_range]
      omega
    have lL : L.length < 18 := by have := ln.ll; omega
    refine Pk.rd_cut (fun σ' H' => ∃ (kvs' : List (Key × V)) (ns' : List Str), σ' = [some (.ref a), some (.ref pd), some (.str (nmF c 35)), some (.ref ps), some (.ref pp), some (.ref pf), some (.int ((i : Nat) : Int)), some (.str (nmF c (i : Nat))), some (.int way)] ∧
      LS K H H' pd m hv b0 (nmF c 35) kvs' ns' kv0 L ps pp pf ns' (L.map Pk.PR.nm) (Pk.firsts L) ∧ ((way = 0 ∧ ns' = ns ++ [nmF c (i : Nat)]) ∨ (way ≠ 0 ∧ ns' = ns))) ?_ ?_
    · wtm_at "go"
      refine Pk.rd_dec (fun k2 => ?_) (fun k2 => ?_)
      · wtm_at "go"
        obtain ⟨dxa, ia⟩ := l.d.ins
        refine Pk.rd_ins ia rfl ?_
        wtm_at "go"
        have nov := l.d.nostore nst
        refine ⟨pd, m, hv, dxa, kvs, nmF c (i : Nat), rfl, ia, l.d.hav, by rw [l.d.klen]; have := l.d.ln; omega, nmF_good c _, (fun z => by rw [nov] at z; cases z), fun _ b lbA lbB nb e hb e2 h2 => ?_⟩
        have lb := l.beg nst lnb nb e hb e2 h2
        have zlbA := lb.sA
        wtm_at "go"
        refine Pk.rd_nyes rfl ?_
        wtm_at "go"
        refine Pk.rd_app lb.sA (Pk.line_lt (by rw [List.length_map]; have := lb.d.ln; have := lnb; simp only [List.length_append, List.length_cons, List.length_nil] at *; omega)) ?_
        generalize q_lbC : upd _ ps _ = lbC
        have s_lbC := Pk.lay_at q_lbC
        have m_lbC := Pk.lay_mut q_lbC
        clear q_lbC
        have lb' := lb.appA m_lbC s_lbC
        wtm_at "go"
        exact ⟨_, _, rfl, lb', .inl ⟨k2, rfl⟩⟩
      · wtm_at "go"
        exact ⟨_, _, rfl, l, .inr ⟨k2, rfl⟩⟩
    rintro σ' Hb ⟨kvs', ns', rfl, lb, hns⟩
    have f0in : nmF c 35 ∈ ns' := lb.d.nf
    obtain ⟨dxb, ib⟩ := lb.d.ins
    wtm_at "go"
    refine Pk.rd_ins ib rfl ?_
    wtm_at "go"
    refine ⟨Nat.le_of_ble_eq_true rfl, fun tl n_tl => ?_⟩
    generalize q_tl : upd _ tl _ = Hc
    have x_Hc := Pk.lay_ex n_tl q_tl
    have s_tl := Pk.lay_at q_tl
    clear q_tl
    have lc := lb.go x_Hc
    wtm_at "go"
    refine ⟨_, _, _, _, _, _, _, _, _, nmF c 35, nmF c (i : Nat), nmF c (i : Nat), tl, rfl, lc.d, f0in, nmF_good c _, nmF_good c _, fun z => absurd z npt, fun _ => ⟨rfl, by omega, false, .inl ⟨rfl, rfl, nf, s_tl⟩, fun r1 kv1 Hd en ef eu np1 nc1 fr dd => ?_⟩⟩
    have ld := lc.recd fr dd np1 nc1
    have zldB := ld.sB
    wtm_at "go"
    refine Pk.rd_nyes rfl ?_
    wtm_at "go"
    refine Pk.rd_app ld.sB (Pk.line_lt (by rw [List.length_map, List.length_map]; omega)) ?_
    generalize q_He : upd _ pp _ = He
    have s_He := Pk.lay_at q_He
    have m_He := Pk.lay_mut q_He
    clear q_He
    have le := ld.appB m_He s_He
    have zleC := le.sC
    wtm_at "go"
    refine Pk.rd_app le.sC (Pk.line_lt (by rw [List.length_map]; have := Pk.firsts_le L; omega)) ?_
    generalize q_Hf : upd _ pf _ = Hf
    have s_Hf := Pk.lay_at q_Hf
    have m_Hf := Pk.lay_mut q_Hf
    clear q_Hf
    have lf := le.appC m_Hf s_Hf
    wtm_at "go"
    refine Pk.rd_cut (fun σ' H' => ∃ (kvs2 : List (Key × V)), σ' = [some (.ref a), some (.ref pd), some (.str (nmF c 35)), some (.ref ps), some (.ref pp), some (.ref pf), some (.int ((i : Nat) : Int)), some (.str (nmF c (i : Nat))), some (.int way)] ∧
      LS K H H' pd m hv b0 (nmF c 35) kvs2 (ns ++ [nmF c (i : Nat)]) kv1 (L ++ [r1]) ps pp pf (ns ++ [nmF c (i : Nat)]) (L.map Pk.PR.nm ++ [nmF c (i : Nat)]) (Pk.firsts L ++ [nmF c (i : Nat)])) ?_ ?_
    · wtm_at "go"
      rcases hns with ⟨k2, rfl⟩ | ⟨k2, rfl⟩
      · refine Pk.rd_no (by omega) ?_
        wtm_at "go"
        exact ⟨_, rfl, lf⟩
      · refine Pk.rd_yes (by omega) ?_
        wtm_at "go"
        obtain ⟨dxa, ia⟩ := lf.d.ins
        refine Pk.rd_ins ia rfl ?_
        wtm_at "go"
        have nov := lf.d.nostore nst
        refine ⟨pd, m, hv, dxa, kvs', nmF c (i : Nat), rfl, ia, lf.d.hav, by rw [lf.d.klen]; have := lf.d.ln; omega, nmF_good c _, (fun z => by rw [nov] at z; cases z), fun _ b lgA lgB nb e hb e2 h2 => ?_⟩
        have lg := lf.beg nst lnb nb e hb e2 h2
        have zlgA := lg.sA
        wtm_at "go"
        refine Pk.rd_nyes rfl ?_
        wtm_at "go"
        refine Pk.rd_app lg.sA (Pk.line_lt (by rw [List.length_map]; have := lg.d.ln; have := lnb; simp only [List.length_append, List.length_cons, List.length_nil] at *; omega)) ?_
        generalize q_lgC : upd _ ps _ = lgC
        have s_lgC := Pk.lay_at q_lgC
        have m_lgC := Pk.lay_mut q_lgC
        clear q_lgC
        have lg' := lg.appA m_lgC s_lgC
        wtm_at "go"
        exact ⟨_, rfl, lg'⟩
    rintro σ' Hg ⟨kvs2, rfl, lg⟩
    wtm_at "go"
    have n2 := ln.patch2 hi5
    have n2' : nmF c (10 + (i : Nat)) ∉ (L ++ [r1]).map Pk.PR.nm := by
      rw [List.map_append]
      intro z
      rcases List.mem_append.mp z with z | z
      · exact n2 z
      · have z2 : nmF c (10 + (i : Nat)) = r1.nm := List.mem_singleton.mp z
        rw [en] at z2
        have := nmF_inj (by omega) (by omega) (by omega) (by omega) z2
        omega
    have eF1 : Pk.ofF (nmF c (i : Nat)) (L ++ [r1]) = [r1] := by
      rw [Pk.ofF_snoc, if_pos ef, nf]
      rfl
    refine Pk.rd_cut (fun σ' H' => ∃ (kv2 : List (Key × V)) (L2 : List Pk.PR), σ' = [some (.ref a), some (.ref pd), some (.str (nmF c 35)), some (.ref ps), some (.ref pp), some (.ref pf), some (.int ((i : Nat) : Int)), some (.str (nmF c (i : Nat))), some (.int way)] ∧
      LS K H H' pd m hv b0 (nmF c 35) kvs2 (ns ++ [nmF c (i : Nat)]) kv2 L2 ps pp pf (ns ++ [nmF c (i : Nat)]) (L2.map Pk.PR.nm) (Pk.firsts L2) ∧ LN c (i + 1) (ns ++ [nmF c (i : Nat)]) L2 ∧ nmF c (i : Nat) ∈ L2.map Pk.PR.nm) ?_ ?_
    · have eB : (L ++ [r1]).map Pk.PR.nm = L.map Pk.PR.nm ++ [nmF c (i : Nat)] := by
        rw [List.map_append, ← en]
        rfl
      have eC : Pk.firsts (L ++ [r1]) = Pk.firsts L ++ [nmF c (i : Nat)] := by
        rw [Pk.firsts_snoc, eu, if_neg Bool.false_ne_true, ef]
      have st1 : ns ++ [nmF c (i : Nat)] = nmF c 35 :: (List.range (i + 1)).map fun k => nmF c (k : Nat) := by
        rw [ln.st, List.range_succ, List.map_append]
        rfl
      have fi1 : Pk.firsts (L ++ [r1]) = (List.range (i + 1)).map fun k => nmF c (k : Nat) := by
        rw [eC, ln.fi, List.range_succ, List.map_append]
        rfl
      have nm1 : ∀ r ∈ L ++ [r1], ∃ k : Nat, k < i + 1 ∧ r.fl = nmF c (k : Nat) ∧ (r.nm = nmF c (k : Nat) ∨ r.nm = nmF c (10 + (k : Nat))) := by
        intro r hr
        rcases List.mem_append.mp hr with hr | hr
        · obtain ⟨k, hk, e⟩ := ln.nm r hr
          exact ⟨k, by omega, e⟩
        · rw [List.mem_singleton] at hr
          subst hr
          exact ⟨i, by omega, ef, .inl en⟩
      rw [← eB, ← eC] at lg
      have zlgB := lg.sB
      wtm_at "go"
      refine Pk.rd_dec (fun k2 => ?_) (fun k2 => ?_)
      · wtm_at "go"
        refine ⟨a, is, _, rfl, lg.ex.seqL hS, by decide, ?_⟩
        wtm_at "go"
        rw [hc]
        refine ⟨c, _, rfl, ?_⟩
        wtm_at "go"
        refine Pk.rd_app lg.sB (Pk.line_lt (by rw [List.length_map, List.length_map, List.length_append]; show L.length + 1 < 100000; omega)) ?_
        generalize q_Hh : upd _ pp _ = Hh
        have s_Hh := Pk.lay_at q_Hh
        have m_Hh := Pk.lay_mut q_Hh
        clear q_Hh
        have lh := lg.appB m_Hh s_Hh
        obtain ⟨dxh, ih⟩ := lh.d.ins
        wtm_at "go"
        refine Pk.rd_ins ih rfl ?_
        wtm_at "go"
        refine Pk.rd_ixL (SqL.of s_Hh) (atI_last _ _) ?_
        wtm_at "go"
        refine ⟨Nat.le_of_ble_eq_true rfl, fun t2 n_t2 => ?_⟩
        generalize q_t2 : upd _ t2 _ = Hi
        have x_Hi := Pk.lay_ex n_t2 q_t2
        have s_t2 := Pk.lay_at q_t2
        clear q_t2
        have li := lh.go x_Hi
        wtm_at "go"
        refine ⟨_, _, _, _, _, _, _, _, _, nmF c 35, nmF c (10 + (i : Nat)), nmF c (i : Nat), t2, rfl, li.d, li.d.nf, nmF_good c _, nmF_good c _, fun z => absurd z n2', fun _ => ⟨rfl, by rw [List.length_append]; show L.length + 1 < 20; omega, true, .inr ⟨rfl, ⟨r1, eF1⟩, s_t2⟩, fun r2 kv2 Hj en2 ef2 eu2 np2 nc2 fr2 dd2 => ?_⟩⟩
        have lj := li.recd fr2 dd2 np2 nc2
        wtm_at "go"
        refine Pk.rd_nyes rfl ?_
        wtm_at "go"
        have eB2 : (L ++ [r1] ++ [r2]).map Pk.PR.nm = (L ++ [r1]).map Pk.PR.nm ++ [nmF c (10 + (i : Nat))] := by
          rw [List.map_append, ← en2]
          rfl
        have eC2 : Pk.firsts (L ++ [r1] ++ [r2]) = Pk.firsts (L ++ [r1]) := by
          rw [Pk.firsts_snoc, eu2, if_pos rfl]
        rw [← eB2, ← eC2] at lj
        refine ⟨kv2, _, rfl, lj, ⟨st1, by rw [eC2]; exact fi1, fun r hr => ?_, ?_⟩, ?_⟩
        · rcases List.mem_append.mp hr with hr | hr
          · exact nm1 r hr
          · rw [List.mem_singleton] at hr
            subst hr
            exact ⟨i, by omega, ef2, .inr en2⟩
        · have := ln.ll
          rw [List.length_append, List.length_append]
          show L.length + 1 + 1 ≤ 2 * (i + 1)
          omega
        · rw [eB2, eB]
          exact List.mem_append_left _ (List.mem_append_right _ (List.mem_singleton.mpr rfl))
      · wtm_at "go"
        refine ⟨kv1, _, rfl, lg, ⟨st1, fi1, nm1, ?_⟩, ?_⟩
        · have := ln.ll
          rw [List.length_append]
          show L.length + 1 ≤ 2 * (i + 1)
          omega
        · rw [eB]
          exact List.mem_append_right _ (List.mem_singleton.mpr rfl)
    rintro σ' Hh ⟨kv2, L2, rfl, lh, ln2, nin⟩
    wtm_at "go"
    refine ⟨_, _, _, _, _, _, _, _, _, nmF c (i : Nat), nmF c (i : Nat), nmF c (i : Nat), rfl, lh.d, List.mem_append_right _ (List.mem_singleton.mpr rfl), nin, nmF_good c _, nmF_good c _, nmF_good c _, fun Hi ei => ?_⟩
    wtm_at "go"
    refine Pk.rd_nyes rfl ?_
    wtm_at "go"
    exact ⟨kvs2, _, kv2, L2, _, _, _, rfl, lh.go ei, ln2⟩
  · rintro σ Ha ⟨kvs, ns, kv0, L, v6, v7, v8, rfl, l, ln⟩
    obtain ⟨dxa, ia⟩ := l.d.ins
    have gns : ∀ t ∈ ns, Pk.TOk t := by
      rw [ln.st]
      intro t ht
      rcases List.mem_cons.mp ht with ht | ht
      · rw [ht]
        exact (nmF_good c _).tok
      · obtain ⟨k, _, rfl⟩ := List.mem_map.mp ht
        exact (nmF_good c _).tok
    have gL : ∀ t ∈ L.map Pk.PR.nm, Pk.TOk t := by
      intro t ht
      obtain ⟨r, hr, rfl⟩ := List.mem_map.mp ht
      obtain ⟨k, _, _, e | e⟩ := ln.nm r hr
      · rw [e]
        exact (nmF_good c _).tok
      · rw [e]
        exact (nmF_good c _).tok
    wtm_at "go"
    refine Pk.rd_ins ia rfl ?_
    wtm_at "go"
    refine ⟨_, _, _, _, _, _, _, _, _, rfl, l.d, ?_⟩
    intro q1 n_q1
    generalize q_q1 : upd _ q1 _ = Hb
    have x_Hb := Pk.lay_ex n_q1 q_q1
    have s_q1 := Pk.lay_at q_q1
    clear q_q1
    have lb := l.go x_Hb
    wtm_at "go"
    refine ⟨q1, ps, ns, rfl, s_q1, lb.sA, gns, ?_⟩
    wtm_at "go"
    refine Pk.rd_ins (x_Hb _ _ ia) rfl ?_
    wtm_at "go"
    refine ⟨_, _, _, _, _, _, _, _, _, rfl, lb.d, ?_⟩
    intro q2 n_q2
    generalize q_q2 : upd _ q2 _ = Hc
    have x_Hc := Pk.lay_ex n_q2 q_q2
    have s_q2 := Pk.lay_at q_q2
    clear q_q2
    have lc := lb.go x_Hc
    wtm_at "go"
    refine ⟨q2, pp, L.map Pk.PR.nm, rfl, s_q2, lc.sB, gL, ?_⟩
    wtm_at "go"
    have ic := (x_Hb.trans x_Hc) _ _ ia
    refine Pk.rd_ins ic rfl ?_
    wtm_at "go"
    refine ⟨_, _, _, _, _, _, _, _, _, nmF c 35, rfl, lc.d, lc.d.nf, fun q3 ys Hd ed hy hsrt s3 => ?_⟩
    have hy2 : ys.Perm (Pk.firsts L) := by
      rcases hy with ⟨_, z⟩ | ⟨z, _⟩
      · exact z
      · exact absurd rfl z
    have ld := lc.go ed
    have lfi := Pk.firsts_le L
    have lL20 := l.d.lL
    wtm_at "go"
    refine ⟨pf, Pk.firsts L, rfl, SqL.of ld.sC, by omega, fun ys2 q4 hp2 hs2 n_q4 => ?_⟩
    have eys : ys2 = ys := Pk.sorted_one (hp2.trans hy2.symm) hs2 hsrt
    subst eys
    generalize q_q4 : upd _ q4 _ = He
    have x_He := Pk.lay_ex n_q4 q_q4
    have s_q4 := Pk.lay_at q_q4
    clear q_q4
    wtm_at "go"
    refine ⟨q3, q4, ys2, rfl, x_He _ _ s3, s_q4, fun t ht => ?_, ?_⟩
    · have z := hy2.mem_iff.mp ht
      rw [ln.fi] at z
      obtain ⟨k, _, rfl⟩ := List.mem_map.mp z
      exact (nmF_good c _).tok
    wtm_at "go"
    have le := ld.go x_He
    obtain ⟨j, hj⟩ : ∃ j, (1 + nn).toNat = j + 1 := ⟨nn.toNat, by omega⟩
    have ens : ns = (nmF c 35 :: (List.range j).map fun k => nmF c (k : Nat)) ++ [nmF c (j : Nat)] := by
      rw [ln.st, hj, List.range_succ, List.map_append]
      rfl
    have hat : atI (ns.map V.str) (-1) = some (.str (nmF c (j : Nat))) := by
      rw [ens, List.map_append]
      exact atI_last _ _
    refine Pk.rd_ins ((ed.trans x_He) _ _ ic) rfl ?_
    wtm_at "go"
    refine Pk.rd_ixL (SqL.of le.sA) hat ?_
    wtm_at "go"
    refine ⟨_, _, _, _, _, _, _, _, _, nmF c (j : Nat), rfl, le.d, by rw [ens]; exact List.mem_append_right _ (List.mem_singleton.mpr rfl), fun q5 zs Hf ef hz _ s5 => ?_⟩
    have ez : zs = [] := by
      rcases hz with ⟨z, _⟩ | ⟨_, z⟩
      · have := nmF_inj (by omega) (by omega) (by omega) (by omega) z
        omega
      · exact z
    subst ez
    wtm_at "go"
    refine ⟨Nat.le_of_ble_eq_true rfl, fun q6 n_q6 => ?_⟩
    generalize q_q6 : upd _ q6 _ = Hg
    have x_Hg := Pk.lay_ex n_q6 q_q6
    have s_q6 := Pk.lay_at q_q6
    clear q_q6
    refine Pk.rd_eqSelf (d := .list []) (.lst (SqL.of (x_Hg _ _ s5)) .nil) (.lst (SqL.of s_q6) .nil) (by decide) ?_
    wtm_at "go"
    exact q _
end
end PkC
set_option maxHeartbeats 0
namespace PkC
open PySem PySem.Spec PyProof.Rows L2
def d_lengths : He.DefD := ⟨("lengths", none), "lengths", "lengths", defArgs s_lengths, defBody s_lengths, defScope s_lengths, [], []⟩
def d_next_pair : He.DefD := ⟨("next_pair", none), "next_pair", "next_pair", defArgs s_next_pair, defBody s_next_pair, defScope s_next_pair, [], []⟩
def d_kept : He.DefD := ⟨("kept", none), "kept", "kept", defArgs s_kept, defBody s_kept, defScope s_kept, [], []⟩
def d_Patch_init__ : He.DefD := ⟨("Patch", some "__init__"), "__init__", "Patch.__init__", defArgs s_Patch_init__, defBody s_Patch_init__, defScope s_Patch_init__, [], []⟩
def d_live_of : He.DefD := ⟨("live_of", none), "live_of", "live_of", defArgs s_live_of, defBody s_live_of, defScope s_live_of, [], []⟩
def d_lines_of : He.DefD := ⟨("lines_of", none), "lines_of", "lines_of", defArgs s_lines_of, defBody s_lines_of, defScope s_lines_of, [], []⟩
def d_aheads : He.DefD := ⟨("aheads", none), "aheads", "aheads", defArgs s_aheads, defBody s_aheads, defScope s_aheads, [], []⟩
def d_standing : He.DefD := ⟨("standing", none), "standing", "standing", defArgs s_standing, defBody s_standing, defScope s_standing, [], []⟩
def d_may_come : He.DefD := ⟨("may_come", none), "may_come", "may_come", defArgs s_may_come, defBody s_may_come, defScope s_may_come, [], []⟩
def d_row_of : He.DefD := ⟨("row_of", none), "row_of", "row_of", defArgs s_row_of, defBody s_row_of, defScope s_row_of, [], []⟩
def d_quarrels_of : He.DefD := ⟨("quarrels_of", none), "quarrels_of", "quarrels_of", defArgs s_quarrels_of, defBody s_quarrels_of, defScope s_quarrels_of, [], []⟩
def d_look_at : He.DefD := ⟨("look_at", none), "look_at", "look_at", defArgs s_look_at, defBody s_look_at, defScope s_look_at, [], []⟩
def d_puts_of : He.DefD := ⟨("puts_of", none), "puts_of", "puts_of", defArgs s_puts_of, defBody s_puts_of, defScope s_puts_of, [], []⟩
def d_Desk_init__ : He.DefD := ⟨("Desk", some "__init__"), "__init__", "Desk.__init__", defArgs s_Desk_init__, defBody s_Desk_init__, defScope s_Desk_init__, [], []⟩
def d_Desk_look_for : He.DefD := ⟨("Desk", some "look_for"), "look_for", "Desk.look_for", defArgs s_Desk_look_for, defBody s_Desk_look_for, defScope s_Desk_look_for, [], []⟩
def d_Desk_chosen : He.DefD := ⟨("Desk", some "chosen"), "chosen", "Desk.chosen", defArgs s_Desk_chosen, defBody s_Desk_chosen, defScope s_Desk_chosen, [], []⟩
def d_Desk_fresh : He.DefD := ⟨("Desk", some "fresh"), "fresh", "Desk.fresh", defArgs s_Desk_fresh, defBody s_Desk_fresh, defScope s_Desk_fresh, [], []⟩
def d_Desk_keep : He.DefD := ⟨("Desk", some "keep"), "keep", "Desk.keep", defArgs s_Desk_keep, defBody s_Desk_keep, defScope s_Desk_keep, [], []⟩
def d_Desk_begin : He.DefD := ⟨("Desk", some "begin"), "begin", "Desk.begin", defArgs s_Desk_begin, defBody s_Desk_begin, defScope s_Desk_begin, [], []⟩
def d_Desk_stores : He.DefD := ⟨("Desk", some "stores"), "stores", "Desk.stores", defArgs s_Desk_stores, defBody s_Desk_stores, defScope s_Desk_stores, [], []⟩
def d_Desk_patches : He.DefD := ⟨("Desk", some "patches"), "patches", "Desk.patches", defArgs s_Desk_patches, defBody s_Desk_patches, defScope s_Desk_patches, [], []⟩
def d_Desk_row : He.DefD := ⟨("Desk", some "row"), "row", "Desk.row", defArgs s_Desk_row, defBody s_Desk_row, defScope s_Desk_row, [], []⟩
def d_Desk_files : He.DefD := ⟨("Desk", some "files"), "files", "Desk.files", defArgs s_Desk_files, defBody s_Desk_files, defScope s_Desk_files, [], []⟩
def d_Desk_quarrels : He.DefD := ⟨("Desk", some "quarrels"), "quarrels", "Desk.quarrels", defArgs s_Desk_quarrels, defBody s_Desk_quarrels, defScope s_Desk_quarrels, [], []⟩
def d_Desk_record : He.DefD := ⟨("Desk", some "record"), "record", "Desk.record", defArgs s_Desk_record, defBody s_Desk_record, defScope s_Desk_record, [], []⟩
def d_law_cell_at : He.DefD := ⟨("_law_cell_at", none), "_law_cell_at", "_law_cell_at", defArgs s_law_cell_at, defBody s_law_cell_at, defScope s_law_cell_at, [], []⟩
def d_law_name : He.DefD := ⟨("_law_name", none), "_law_name", "_law_name", defArgs s_law_name, defBody s_law_name, defScope s_law_name, [], []⟩
def d_law_names_are : He.DefD := ⟨("_law_names_are", none), "_law_names_are", "_law_names_are", defArgs s_law_names_are, defBody s_law_names_are, defScope s_law_names_are, [], []⟩
def d_law_taken : He.DefD := ⟨("_law_taken", none), "_law_taken", "_law_taken", defArgs s_law_taken, defBody s_law_taken, defScope s_law_taken, [], []⟩
def d_law : He.DefD := ⟨("law", none), "law", "law", defArgs s_law, defBody s_law, defScope s_law, [], []⟩
def fn : List He.DefD := [d_lengths, d_next_pair, d_kept, d_Patch_init__, d_live_of, d_lines_of, d_aheads, d_standing, d_may_come, d_row_of, d_quarrels_of, d_look_at, d_puts_of, d_Desk_init__, d_Desk_look_for, d_Desk_chosen, d_Desk_fresh, d_Desk_keep, d_Desk_begin, d_Desk_stores, d_Desk_patches, d_Desk_row, d_Desk_files, d_Desk_quarrels, d_Desk_record, d_law_cell_at, d_law_name, d_law_names_are, d_law_taken, d_law]
def fa0 : List He.Fa := [.glo "lengths", .keep "lengths", .glo "next_pair", .keep "next_pair", .glo "kept", .keep "kept", .glo "live_of", .keep "live_of", .glo "lines_of", .keep "lines_of", .glo "aheads", .keep "aheads", .glo "standing", .keep "standing", .glo "may_come", .keep "may_come", .glo "row_of", .keep "row_of", .glo "quarrels_of", .keep "quarrels_of"]
def fa1 : List He.Fa := [.glo "look_at", .keep "look_at", .glo "puts_of", .keep "puts_of", .meth "Desk" "look_for", .meth "Desk" "chosen", .meth "Desk" "fresh", .meth "Desk" "keep", .meth "Desk" "begin", .meth "Desk" "stores", .meth "Desk" "patches", .meth "Desk" "row", .meth "Desk" "files", .meth "Desk" "quarrels", .meth "Desk" "record", .glo "_law_cell_at", .keep "_law_cell_at", .glo "_law_name", .keep "_law_name", .glo "_law_names_are"]
def fa2 : List He.Fa := [.keep "_law_names_are", .glo "_law_taken", .keep "_law_taken", .glo "law", .keep "law", .glo "Patch", .cls "Patch", .mkr "Patch", .noat "Patch" "name", .noat "Patch" "file", .noat "Patch" "puts", .noat "Patch" "cuts", .noat "Patch" "other", .noat "Patch" "needs", .glo "Desk", .cls "Desk", .mkr "Desk", .noat "Desk" "made", .noat "Desk" "having", .glo "PatchError"]
def fa3 : List He.Fa := [.exc "PatchError", .glo "BadName", .exc "BadName", .glo "NameTaken", .exc "NameTaken", .glo "NoStore", .exc "NoStore", .glo "NoPatch", .exc "NoPatch", .glo "Unsettled", .exc "Unsettled", .glo "Same", .exc "Same", .free "dict", .free "enumerate", .free "isinstance", .free "len", .free "list", .free "max", .free "range"]
def fa4 : List He.Fa := [.free "reversed", .free "sorted", .free "str", .str "SIGNS" "abcdefghijklmnopqrstuvwxyz0123456789", .exm "NameTaken" "NameTaken" true]
def fa : List He.Fa := fa0 ++ fa1 ++ fa2 ++ fa3 ++ fa4
def exf (K : PySem.W.Frag) : Bool := true || K.isEmpty
abbrev R : PySem.W.OpenRow := PySem.W.OpenLaw.row PySem.Challenge.rw_patchkin_k16_rooms_of_names
abbrev hk : PySem.W.Hook := He.hookX 5 fa fn [] [] exf
def ob (s : PySem.W.SharedT) : He.AlX := He.obsX 5 fa fn [] [] exf (HandSHeadRun.getT s)
theorem ob_eq (s : PySem.W.SharedT) : ob s = hk.obs s.abs := He.obsX_eq (HandSHeadRun.getT_eq s)
def loose0 : List Str := ["_wall", "__name__", "lengths", "next_pair", "kept", "PatchError", "BadName", "NameTaken", "NoStore", "NoPatch", "Unsettled", "Same", "Patch", "live_of", "lines_of", "aheads", "standing", "may_come", "row_of", "quarrels_of", "SIGNS", "look_at", "puts_of", "Desk", "_law_cell_at"]
def loose1 : List Str := ["_law_name", "_law_names_are", "_law_taken"]
def loose : List Str := loose0 ++ loose1
theorem run (w : World) : HandSHeadRun.RunEq R (PySem.W.view R.prog [32]) hk ob 4000 loose w := by
  intro os
  kernel_rfl
theorem txt_of {K : PySem.W.Frag} {h : Heap} {mg : Str → Option Value} (X : K.In h) (G : h.Ns mainGlobals mg) (c : He.SaysD fa fn K) (m : exf K = true) : Txt K mg where
  g_lengths := He.glo_ok X G (c.fact 0 (f := .glo "lengths") rfl)
  k_lengths := He.keep_ok (c.fact 1 (f := .keep "lengths") rfl)
  F_lengths := c.def_ 0 (d := d_lengths) rfl
  g_next_pair := He.glo_ok X G (c.fact 2 (f := .glo "next_pair") rfl)
  k_next_pair := He.keep_ok (c.fact 3 (f := .keep "next_pair") rfl)
  F_next_pair := c.def_ 1 (d := d_next_pair) rfl
  g_kept := He.glo_ok X G (c.fact 4 (f := .glo "kept") rfl)
  k_kept := He.keep_ok (c.fact 5 (f := .keep "kept") rfl)
  F_kept := c.def_ 2 (d := d_kept) rfl
  F_Patch_init__ := c.def_ 3 (d := d_Patch_init__) rfl
  g_live_of := He.glo_ok X G (c.fact 6 (f := .glo "live_of") rfl)
  k_live_of := He.keep_ok (c.fact 7 (f := .keep "live_of") rfl)
  F_live_of := c.def_ 4 (d := d_live_of) rfl
  g_lines_of := He.glo_ok X G (c.fact 8 (f := .glo "lines_of") rfl)
  k_lines_of := He.keep_ok (c.fact 9 (f := .keep "lines_of") rfl)
  F_lines_of := c.def_ 5 (d := d_lines_of) rfl
  g_aheads := He.glo_ok X G (c.fact 10 (f := .glo "aheads") rfl)
  k_aheads := He.keep_ok (c.fact 11 (f := .keep "aheads") rfl)
  F_aheads := c.def_ 6 (d := d_aheads) rfl
  g_standing := He.glo_ok X G (c.fact 12 (f := .glo "standing") rfl)
  k_standing := He.keep_ok (c.fact 13 (f := .keep "standing") rfl)
  F_standing := c.def_ 7 (d := d_standing) rfl
  g_may_come := He.glo_ok X G (c.fact 14 (f := .glo "may_come") rfl)
  k_may_come := He.keep_ok (c.fact 15 (f := .keep "may_come") rfl)
  F_may_come := c.def_ 8 (d := d_may_come) rfl
  g_row_of := He.glo_ok X G (c.fact 16 (f := .glo "row_of") rfl)
  k_row_of := He.keep_ok (c.fact 17 (f := .keep "row_of") rfl)
  F_row_of := c.def_ 9 (d := d_row_of) rfl
  g_quarrels_of := He.glo_ok X G (c.fact 18 (f := .glo "quarrels_of") rfl)
  k_quarrels_of := He.keep_ok (c.fact 19 (f := .keep "quarrels_of") rfl)
  F_quarrels_of := c.def_ 10 (d := d_quarrels_of) rfl
  g_look_at := He.glo_ok X G (c.fact 20 (f := .glo "look_at") rfl)
  k_look_at := He.keep_ok (c.fact 21 (f := .keep "look_at") rfl)
  F_look_at := c.def_ 11 (d := d_look_at) rfl
  g_puts_of := He.glo_ok X G (c.fact 22 (f := .glo "puts_of") rfl)
  k_puts_of := He.keep_ok (c.fact 23 (f := .keep "puts_of") rfl)
  F_puts_of := c.def_ 12 (d := d_puts_of) rfl
  F_Desk_init__ := c.def_ 13 (d := d_Desk_init__) rfl
  m_Desk_look_for := He.meth_ok (c.fact 24 (f := .meth "Desk" "look_for") rfl)
  F_Desk_look_for := c.def_ 14 (d := d_Desk_look_for) rfl
  m_Desk_chosen := He.meth_ok (c.fact 25 (f := .meth "Desk" "chosen") rfl)
  F_Desk_chosen := c.def_ 15 (d := d_Desk_chosen) rfl
  m_Desk_fresh := He.meth_ok (c.fact 26 (f := .meth "Desk" "fresh") rfl)
  F_Desk_fresh := c.def_ 16 (d := d_Desk_fresh) rfl
  m_Desk_keep := He.meth_ok (c.fact 27 (f := .meth "Desk" "keep") rfl)
  F_Desk_keep := c.def_ 17 (d := d_Desk_keep) rfl
  m_Desk_begin := He.meth_ok (c.fact 28 (f := .meth "Desk" "begin") rfl)
  F_Desk_begin := c.def_ 18 (d := d_Desk_begin) rfl
  m_Desk_stores := He.meth_ok (c.fact 29 (f := .meth "Desk" "stores") rfl)
  F_Desk_stores := c.def_ 19 (d := d_Desk_stores) rfl
  m_Desk_patches := He.meth_ok (c.fact 30 (f := .meth "Desk" "patches") rfl)
  F_Desk_patches := c.def_ 20 (d := d_Desk_patches) rfl
  m_Desk_row := He.meth_ok (c.fact 31 (f := .meth "Desk" "row") rfl)
  F_Desk_row := c.def_ 21 (d := d_Desk_row) rfl
  m_Desk_files := He.meth_ok (c.fact 32 (f := .meth "Desk" "files") rfl)
  F_Desk_files := c.def_ 22 (d := d_Desk_files) rfl
  m_Desk_quarrels := He.meth_ok (c.fact 33 (f := .meth "Desk" "quarrels") rfl)
  F_Desk_quarrels := c.def_ 23 (d := d_Desk_quarrels) rfl
  m_Desk_record := He.meth_ok (c.fact 34 (f := .meth "Desk" "record") rfl)
  F_Desk_record := c.def_ 24 (d := d_Desk_record) rfl
  g_law_cell_at := He.glo_ok X G (c.fact 35 (f := .glo "_law_cell_at") rfl)
  k_law_cell_at := He.keep_ok (c.fact 36 (f := .keep "_law_cell_at") rfl)
  F_law_cell_at := c.def_ 25 (d := d_law_cell_at) rfl
  g_law_name := He.glo_ok X G (c.fact 37 (f := .glo "_law_name") rfl)
  k_law_name := He.keep_ok (c.fact 38 (f := .keep "_law_name") rfl)
  F_law_name := c.def_ 26 (d := d_law_name) rfl
  g_law_names_are := He.glo_ok X G (c.fact 39 (f := .glo "_law_names_are") rfl)
  k_law_names_are := He.keep_ok (c.fact 40 (f := .keep "_law_names_are") rfl)
  F_law_names_are := c.def_ 27 (d := d_law_names_are) rfl
  g_law_taken := He.glo_ok X G (c.fact 41 (f := .glo "_law_taken") rfl)
  k_law_taken := He.keep_ok (c.fact 42 (f := .keep "_law_taken") rfl)
  F_law_taken := c.def_ 28 (d := d_law_taken) rfl
  g_law := He.glo_ok X G (c.fact 43 (f := .glo "law") rfl)
  k_law := He.keep_ok (c.fact 44 (f := .keep "law") rfl)
  F_law := c.def_ 29 (d := d_law) rfl
  g_Patch := He.glo_ok X G (c.fact 45 (f := .glo "Patch") rfl)
  c_Patch := He.cls_ok (c.fact 46 (f := .cls "Patch") rfl)
  m_Patch := He.mkr_ok (c.fact 47 (f := .mkr "Patch") rfl)
  n_Patch_name := He.noat_ok (c.fact 48 (f := .noat "Patch" "name") rfl)
  n_Patch_file := He.noat_ok (c.fact 49 (f := .noat "Patch" "file") rfl)
  n_Patch_puts := He.noat_ok (c.fact 50 (f := .noat "Patch" "puts") rfl)
  n_Patch_cuts := He.noat_ok (c.fact 51 (f := .noat "Patch" "cuts") rfl)
  n_Patch_other := He.noat_ok (c.fact 52 (f := .noat "Patch" "other") rfl)
  n_Patch_needs := He.noat_ok (c.fact 53 (f := .noat "Patch" "needs") rfl)
  g_Desk := He.glo_ok X G (c.fact 54 (f := .glo "Desk") rfl)
  c_Desk := He.cls_ok (c.fact 55 (f := .cls "Desk") rfl)
  m_Desk := He.mkr_ok (c.fact 56 (f := .mkr "Desk") rfl)
  n_Desk_made := He.noat_ok (c.fact 57 (f := .noat "Desk" "made") rfl)
  n_Desk_having := He.noat_ok (c.fact 58 (f := .noat "Desk" "having") rfl)
  g_PatchError := He.glo_ok X G (c.fact 59 (f := .glo "PatchError") rfl)
  x_PatchError := (He.exc_ok (c.fact 60 (f := .exc "PatchError") rfl)).1
  k_PatchError := (He.exc_ok (c.fact 60 (f := .exc "PatchError") rfl)).2.1
  s_PatchError := (He.exc_ok (c.fact 60 (f := .exc "PatchError") rfl)).2.2.1
  t_PatchError := (He.exc_ok (c.fact 60 (f := .exc "PatchError") rfl)).2.2.2
  g_BadName := He.glo_ok X G (c.fact 61 (f := .glo "BadName") rfl)
  x_BadName := (He.exc_ok (c.fact 62 (f := .exc "BadName") rfl)).1
  k_BadName := (He.exc_ok (c.fact 62 (f := .exc "BadName") rfl)).2.1
  s_BadName := (He.exc_ok (c.fact 62 (f := .exc "BadName") rfl)).2.2.1
  t_BadName := (He.exc_ok (c.fact 62 (f := .exc "BadName") rfl)).2.2.2
  g_NameTaken := He.glo_ok X G (c.fact 63 (f := .glo "NameTaken") rfl)
  x_NameTaken := (He.exc_ok (c.fact 64 (f := .exc "NameTaken") rfl)).1
  k_NameTaken := (He.exc_ok (c.fact 64 (f := .exc "NameTaken") rfl)).2.1
  s_NameTaken := (He.exc_ok (c.fact 64 (f := .exc "NameTaken") rfl)).2.2.1
  t_NameTaken := (He.exc_ok (c.fact 64 (f := .exc "NameTaken") rfl)).2.2.2
  g_NoStore := He.glo_ok X G (c.fact 65 (f := .glo "NoStore") rfl)
  x_NoStore := (He.exc_ok (c.fact 66 (f := .exc "NoStore") rfl)).1
  k_NoStore := (He.exc_ok (c.fact 66 (f := .exc "NoStore") rfl)).2.1
  s_NoStore := (He.exc_ok (c.fact 66 (f := .exc "NoStore") rfl)).2.2.1
  t_NoStore := (He.exc_ok (c.fact 66 (f := .exc "NoStore") rfl)).2.2.2
  g_NoPatch := He.glo_ok X G (c.fact 67 (f := .glo "NoPatch") rfl)
  x_NoPatch := (He.exc_ok (c.fact 68 (f := .exc "NoPatch") rfl)).1
  k_NoPatch := (He.exc_ok (c.fact 68 (f := .exc "NoPatch") rfl)).2.1
  s_NoPatch := (He.exc_ok (c.fact 68 (f := .exc "NoPatch") rfl)).2.2.1
  t_NoPatch := (He.exc_ok (c.fact 68 (f := .exc "NoPatch") rfl)).2.2.2
  g_Unsettled := He.glo_ok X G (c.fact 69 (f := .glo "Unsettled") rfl)
  x_Unsettled := (He.exc_ok (c.fact 70 (f := .exc "Unsettled") rfl)).1
  k_Unsettled := (He.exc_ok (c.fact 70 (f := .exc "Unsettled") rfl)).2.1
  s_Unsettled := (He.exc_ok (c.fact 70 (f := .exc "Unsettled") rfl)).2.2.1
  t_Unsettled := (He.exc_ok (c.fact 70 (f := .exc "Unsettled") rfl)).2.2.2
  g_Same := He.glo_ok X G (c.fact 71 (f := .glo "Same") rfl)
  x_Same := (He.exc_ok (c.fact 72 (f := .exc "Same") rfl)).1
  k_Same := (He.exc_ok (c.fact 72 (f := .exc "Same") rfl)).2.1
  s_Same := (He.exc_ok (c.fact 72 (f := .exc "Same") rfl)).2.2.1
  t_Same := (He.exc_ok (c.fact 72 (f := .exc "Same") rfl)).2.2.2
  b_dict := He.free_ok X G (c.fact 73 (f := .free "dict") rfl)
  b_enumerate := He.free_ok X G (c.fact 74 (f := .free "enumerate") rfl)
  b_isinstance := He.free_ok X G (c.fact 75 (f := .free "isinstance") rfl)
  b_len := He.free_ok X G (c.fact 76 (f := .free "len") rfl)
  b_list := He.free_ok X G (c.fact 77 (f := .free "list") rfl)
  b_max := He.free_ok X G (c.fact 78 (f := .free "max") rfl)
  b_range := He.free_ok X G (c.fact 79 (f := .free "range") rfl)
  b_reversed := He.free_ok X G (c.fact 80 (f := .free "reversed") rfl)
  b_sorted := He.free_ok X G (c.fact 81 (f := .free "sorted") rfl)
  b_str := He.free_ok X G (c.fact 82 (f := .free "str") rfl)
  v_SIGNS := He.str_ok X G (c.fact 83 (f := .str "SIGNS" "abcdefghijklmnopqrstuvwxyz0123456789") rfl)
  e_NameTaken := He.exm_ok (c.fact 84 (f := .exm "NameTaken" "NameTaken" true) rfl)
end PkC
open PySem PySem.W PySem.Calls PyProof.Rows
theorem PySem.Challenge.cw_patchkin_k16_rooms_of_names_holds : PySem.Challenge.rw_patchkin_k16_rooms_of_names.Holds := by
  w_on; o_law
  refine HandSHeadRun.head_any (r := OpenLaw.row PySem.Challenge.rw_patchkin_k16_rooms_of_names) (q := view (OpenLaw.row PySem.Challenge.rw_patchkin_k16_rooms_of_names).prog [32]) (H := PkC.hk) (ob := PkC.ob) (M := 4000) (loose := PkC.loose) (d := HandSHeadRun.topDef (OpenLaw.row PySem.Challenge.rw_patchkin_k16_rooms_of_names).prog 32) (kwd := []) PkC.ob_eq
    (by kernel_rfl) (fun s => by kernel_rfl) PkC.run (by kernel_rfl) (by kernel_rfl) (by kernel_rfl) (by rfl) (by first | assumption | decide +kernel) (by decide +kernel) ⟨rfl, rfl, rfl, rfl, rfl, by decide +kernel⟩ ?hw ?hc
  case hw => w_witness2
  case hc =>
    refine L2.walk_ofE (l := PySem.Challenge.rw_patchkin_k16_rooms_of_names) (n := 63) (k := 8) (x := "script") (CX := L2.CX0) rfl (by decide) (by kernel_rfl) ⟨rfl, by decide, by decide⟩ ?F (fun _ _ _ _ z => z)
    intro w mg fa h Y G hmg0
    obtain ⟨K, KX, c⟩ := Y
    have hmg : mg ("law" : PySem.Str) = some (.ref fa) := by
      have e : (HandSHeadRun.topDef (OpenLaw.row PySem.Challenge.rw_patchkin_k16_rooms_of_names).prog 32).name = ("law" : PySem.Str) := by kernel_rfl
      rw [← e]
      exact hmg0
    have T : PkC.Txt K mg := PkC.txt_of KX G c.t.d c.more
    obtain ⟨fd, F⟩ := T.F_law
    have b := F.bindsA (ps := ["script"]) fun _ _ _ _ _ _ us hl => match us, hl with | [_], _ => rfl
    have ea : He.fAd K ("law", none) = fa := by
      have z := hmg.symm.trans T.g_law
      cases z
      rfl
    refine ⟨K, fd, PkC.sp_law K, KX, fun s v => b s [v] rfl, fun H a ns hl _ hS => ⟨a, ns, rfl, hS, fun _ => rfl⟩, fun base _ _ => ?_⟩
    have z := PkC.ok_law (P := (PySem.Challenge.rw_patchkin_k16_rooms_of_names).prog) (w := w) (base := base) T F
    rw [ea] at z
    exact z
