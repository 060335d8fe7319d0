import PyProof.Rows.All
import Wide.All
import OpenK.AllK
import Wide.FinOn
import KE.KStateDown
import Lean
import HandS.ForMost
import HandS.Steps
import HandS.IsInst
import HandS.More
import HandS.Exc
import HandS.WordsExc
import HandS.Defaults
import HandS.Head0
import HandS.Head1
import HandS.Head2
import HandS.HeadEnd
import HandS.HeadHook1
import HandS.HeadHook2
import HandS.Style
import HandS.TupLe
import HandS.Rev
import HandS.RevRange
import HandS.DictTup
import HandS.RaiseFrom
import HandS.SuiteRaise
import HandS.SetKeys
import HandS.ExcInit
import HandS.ExcField
import HandS.Walk
import KE.KxText
import PySem.Challenge.RW_inningsbook_k02_numbers
set_option Elab.async false
set_option linter.all false
set_option maxRecDepth 100000
set_option maxHeartbeats 4000000

namespace L2.A
open PySem PySem.Spec PyProof.Rows
/-! a layer of our own over HandS: defs by name, operators for every kind of value, one step a construct -/
/-- what is at fp may change, the rest stays -/
def Kp (fp : Addr → Prop) (H H' : Hp) : Prop := ∀ a o, H a = some o → ¬ fp a → H' a = some o
theorem Kp.same {fp : Addr → Prop} {H H' : Hp} (h : Same H H') : Kp fp H H' := fun a o e _ => h a o e
theorem Kp.refl {fp : Addr → Prop} {H : Hp} : Kp fp H H := fun _ _ e _ => e
theorem Kp.trans {fp : Addr → Prop} {H H1 H2 : Hp} (a : Kp fp H H1) (b : Kp fp H1 H2) : Kp fp H H2 := fun x o e n => b x o (a x o e n) n
theorem Kp.upd {H : Hp} {p : Addr} {o : HO} : Kp (fun a => a = p) H (upd H p o) := fun a u e n => by rw [upd_ne n]; exact e
theorem same_new {H : Hp} {p : Addr} {o : HO} (h : H p = none) : Same H (upd H p o) := fun a u e => by rw [upd_ne (ne_of_none e h)]; exact e
theorem same_new2 {H H' : Hp} {p : Addr} {o : HO} (s : Same H H') (h : H' p = none) : Same H (upd H' p o) := s.trans (same_new h)
/-- an object that H does not know may change -/
theorem same_mut {H H' : Hp} {p : Addr} {o : HO} (s : Same H H') (h : H p = none) : Same H (upd H' p o) := fun a u e => by rw [upd_ne (ne_of_none e h)]; exact s a u e
theorem same_kp {H H1 H2 : Hp} {p : Addr} (s : Same H H1) (k : Kp (fun a => a = p) H1 H2) (h : H p = none) : Same H H2 := fun a o e => k a o (s a o e) (ne_of_none e h)
theorem ge_same {H H' : Hp} {a : Addr} {o : HO} (s : Same H H') (h : H a = some o) : H' a = some o := s a o h

section
variable {P : Program} {w : World} {K : PySem.W.Frag} {mg : Str → Option Value} {base : Heap} {CX : CXT} {k : Nat}
/-- a def of the top by its name -/
structure Dn (P : Program) (w : World) (K : PySem.W.Frag) (mg : Str → Option Value) (base : Heap) (CX : CXT) (k : Nat) (x : Str) (ps : List Str) (dvs : List V) (sp : Sp) : Prop where
  ex : ∃ (f : Addr) (fd : FuncData) (ds : List Value), FnOk P w K mg base CX k f fd ps sp ∧ mg x = some (.ref f) ∧ PySem.W.keepIn K (.ref f) = true ∧ Binds K fd ps ds ∧ Vals dvs ds
end
section
variable {X : Cx} {CX : CXT} {k : Nat} {ps : List Str} {dvs : List V} {sp : Sp} {E : XK} {x : Str} {p pos : Pos} {e : Expr} {es : List Expr} {t : TA}
theorem pe_d (D : Dn X.prog X.w X.K X.mg X.base CX k x ps dvs sp) (hr : Room k X.A) (hg : Gl X x) (hx : Passes CX X E) (ha : PA X (e :: es) t) (hdb : (x == ("__debug__" : Str)) = false := by decide)
    (he : starEach (e :: es) X.env = (false, eval e X.env) :: starEach es X.env := by rfl) (hpl : (backTo pos (starEach es X.env)).any (·.1) = false := by rfl) : PE X (.Call (.Name x p) (e :: es) [] pos) (tCall sp dvs E t) := by
  obtain ⟨f, fd, ds, F, hm, hk, hb, hv⟩ := D.ex
  exact pe_call F hr hg hm hk hb hv hx ha hdb he hpl
theorem pe_d0 (D : Dn X.prog X.w X.K X.mg X.base CX k x ps dvs sp) (hr : Room k X.A) (hg : Gl X x) (hx : Passes CX X E) (hdb : (x == ("__debug__" : Str)) = false := by decide) : PE X (.Call (.Name x p) [] [] pos) (tCall sp dvs E tNil) := by
  obtain ⟨f, fd, ds, F, hm, hk, hb, hv⟩ := D.ex
  exact pe_call0 F hr hg hm hk hb hv hx hdb
end

/-! ### steps -/
section
variable {t u : TS} {D : Ends} {σ σ' : St} {H : Hp} {te ta tb tc : TE} {g : TG} {v : V} {i : Nat} {Q : VK} {r r' : R2} {tt tu : TT} {QB : Bool → Hp → Prop} {QS : St → Hp → Prop} {ts : TA} {QL : List V → Hp → Prop} {K : PySem.W.Frag}
theorem go_seq (h : t { D with nx := u D } σ H) : tSeq t u D σ H := h
theorem go_asg (h : te σ H fun x H1 => g x σ H1 D.nx) : tAsg te g D σ H := h
theorem go_name (e : σ.set i (some v) = σ') (h : QS σ' H) : gName i v σ H QS := by show QS (σ.set i (some v)) H; rw [e]; exact h
theorem go_var (e : σ[i]? = some (some v)) (h : Q v H) : tVar i σ H Q := ⟨v, e, h⟩
theorem go_c (h : Q v H) : tC v σ H Q := h
theorem go_op (h : ta σ H fun x H1 => tb σ H1 fun y H2 => r x y H2 Q) : tOp r ta tb σ H Q := h
theorem go_un {ru : V → Hp → VK → Prop} (h : ta σ H fun x H1 => ru x H1 Q) : tUn ru ta σ H Q := h
theorem go_I0 {f : Int → Int → V} {a b : Int} (h : Q (f a b) H) : rI0 f (.int a) (.int b) H Q := ⟨a, b, rfl, rfl, h⟩
theorem go_I {C : Int → Int → Prop} {f : Int → Int → V} {a b : Int} (c : C a b) (h : Q (f a b) H) : rI C f (.int a) (.int b) H Q := ⟨a, b, rfl, rfl, c, h⟩
theorem go_U {f : Int → V} {a : Int} (h : Q (f a) H) : rU f (.int a) H Q := ⟨a, rfl, h⟩
theorem go_ret (h : te σ H D.rt) : tRet te D σ H := h
theorem go_retN (h : D.rt .non H) : tRetN D σ H := h
theorem go_next (h : D.nx σ H) : tNext D σ H := h
theorem go_brk (h : D.bk σ H) : tBreak D σ H := h
theorem go_ct (h : D.ct σ H) : tCont D σ H := h
theorem go_if (h : tt σ H fun b H1 => if b = true then t D σ H1 else u D σ H1) : tIfS tt t u D σ H := h
theorem go_ifx (h : tt σ H fun c H1 => if c = true then ta σ H1 Q else tb σ H1 Q) : tIf tt ta tb σ H Q := h
def KB (x : V) (H : Hp) (QB : Bool → Hp → Prop) : Prop := ∃ k, x = .bl k ∧ QB k H
theorem go_test (h : te σ H fun x H' => KB x H' QB) : tTest te σ H QB := h
theorem go_B (h : te σ H fun x H' => KB x H' QB) : tB te σ H QB := h
theorem go_bl {b : Bool} (h : QB b H) : KB (.bl b) H QB := ⟨b, rfl, h⟩
theorem go_not (h : tt σ H fun c H1 => QB (!c) H1) : tNot tt σ H QB := h
theorem go_and (h : tt σ H fun c H1 => if c = true then tu σ H1 QB else QB false H1) : tAnd tt tu σ H QB := h
theorem go_or (h : tt σ H fun c H1 => if c = true then QB true H1 else tu σ H1 QB) : tOr tt tu σ H QB := h
theorem go_andV (h : ta σ H fun x H1 => KB x H1 fun c H1 => if c = true then tb σ H1 Q else Q (.bl false) H1) : tAndV ta tb σ H Q := h
theorem go_orV (h : ta σ H fun x H1 => KB x H1 fun c H1 => if c = true then Q (.bl true) H1 else tb σ H1 Q) : tOrV ta tb σ H Q := h
theorem go_notV (h : ta σ H fun x H1 => KB x H1 fun c H1 => Q (.bl (!c)) H1) : tNotV ta σ H Q := h
theorem go_drop (h : te σ H fun _ H1 => D.nx σ H1) : tDrop te D σ H := h
theorem go_nil (h : QL [] H) : tNil σ H QL := h
theorem go_cons (h : te σ H fun x H1 => ts σ H1 fun xs H2 => QL (x :: xs) H2) : tCons te ts σ H QL := h
def NewO (o : HO) (H : Hp) (Q : VK) : Prop := ∀ p, H p = none → Q (.ref p) (upd H p o)
def NewT (xs : List V) (H : Hp) (Q : VK) : Prop := xs.length ≤ sizeLine ∧ NewO (.tup xs) H Q
def NewL (xs : List V) (H : Hp) (Q : VK) : Prop := xs.length ≤ sizeLine ∧ NewO (.lst xs) H Q
theorem go_tup (h : ts σ H fun xs H1 => NewT xs H1 Q) : tTup ts σ H Q := h
theorem go_lst (h : ts σ H fun xs H1 => NewL xs H1 Q) : tLst ts σ H Q := h
theorem go_newT {xs : List V} (e : Nat.ble xs.length 1000 = true) (h : NewO (.tup xs) H Q) : NewT xs H Q := ⟨Nat.le_trans (Nat.le_of_ble_eq_true e) (by decide), h⟩
theorem go_newL {xs : List V} (e : Nat.ble xs.length 1000 = true) (h : NewO (.lst xs) H Q) : NewL xs H Q := ⟨Nat.le_trans (Nat.le_of_ble_eq_true e) (by decide), h⟩
theorem go_CB {rc : List V → Hp → VK → Prop} (h : ts σ H fun vs H1 => rc vs H1 Q) : tCB rc ts σ H Q := h
theorem go_call {sp : Sp} {dvs : List V} {E : XK} (h : ts σ H fun vs H1 => sp (vs ++ dvs) H1 Q E) : tCall sp dvs E ts σ H Q := h
theorem go_eq {x y : V} (e : scal x y = true) (h : Q (.bl (decide (x = y))) H) : rEq x y H Q := ⟨e, h⟩
theorem go_ne {x y : V} (e : scal x y = true) (h : Q (.bl (!decide (x = y))) H) : rNe x y H Q := ⟨e, h⟩
theorem go_chain (h : ta σ H fun x H1 => tb σ H1 fun y H2 => r x y H2 fun z H3 => KB z H3 fun k H3 => (if k = true then tc σ H3 fun w' H4 => r' y w' H4 Q else Q (.bl false) H3)) : tChain r r' ta tb tc σ H Q := h
theorem go_gtup {n : Nat} {tg : TGs} {a : Addr} {xs : List V} (hs : SqT K H a xs) (hl : xs.length = n) (h : tg xs σ H QS) : gTup K n tg (.ref a) σ H QS := ⟨a, xs, rfl, hs, hl, h⟩
theorem go_gcons {tg : TGs} {vs : List V} (h : g v σ H fun σ' H' => tg vs σ' H' QS) : gCons g tg (v :: vs) σ H QS := ⟨v, vs, rfl, h⟩
theorem go_gnil (h : QS σ H) : gNil [] σ H QS := ⟨rfl, h⟩
theorem go_nx {a : St → Hp → Prop} {b : VK} {c d : St → Hp → Prop} (h : a σ H) : Ends.nx ⟨a, b, c, d⟩ σ H := h
theorem go_rt {a : St → Hp → Prop} {b : VK} {c d : St → Hp → Prop} (h : b v H) : Ends.rt ⟨a, b, c, d⟩ v H := h
theorem go_bk {a : St → Hp → Prop} {b : VK} {c d : St → Hp → Prop} (h : c σ H) : Ends.bk ⟨a, b, c, d⟩ σ H := h
theorem go_ctx {a : St → Hp → Prop} {b : VK} {c d : St → Hp → Prop} (h : d σ H) : Ends.ct ⟨a, b, c, d⟩ σ H := h
theorem go_sub {to ti : TE} {ps : TSet} (h : to σ H fun o H1 => ti σ H1 fun i H2 => ps o i v H2 fun H3 => QS σ H3) : gSub to ti ps v σ H QS := h
theorem iteNT {A B : Prop} (h : B) : if (!true) = true then A else B := by rw [if_neg (by decide)]; exact h
theorem iteNF {A B : Prop} (h : A) : if (!false) = true then A else B := by rw [if_pos (by decide)]; exact h
theorem if2 {b : Bool} {A B : Prop} (h1 : b = true → A) (h2 : b = false → B) : if b = true then A else B := by
  cases b with
  | true => exact h1 rfl
  | false => exact h2 rfl
end
end L2.A

namespace L2.A
open PySem PySem.Spec PyProof.Rows
/-! ### operators for every kind of value -/
theorem boot_len : bootBuiltins "len" = some (.builtin "len") := by decide +kernel
theorem boot_isinstance : bootBuiltins "isinstance" = some (.builtin "isinstance") := by decide +kernel
theorem boot_sum : bootBuiltins "sum" = some (.builtin "sum") := by decide +kernel
theorem boot_max : bootBuiltins "max" = some (.builtin "max") := by decide +kernel
theorem boot_min : bootBuiltins "min" = some (.builtin "min") := by decide +kernel
theorem boot_all : bootBuiltins "all" = some (.builtin "all") := by decide +kernel
theorem boot_any : bootBuiltins "any" = some (.builtin "any") := by decide +kernel
theorem boot_abs : bootBuiltins "abs" = some (.builtin "abs") := by decide +kernel
theorem boot_sorted : bootBuiltins "sorted" = some (.builtin "sorted") := by decide +kernel
theorem boot_int : bootBuiltins "int" = some (.type "int") := by decide +kernel
theorem boot_str : bootBuiltins "str" = some (.type "str") := by decide +kernel
theorem boot_bool : bootBuiltins "bool" = some (.type "bool") := by decide +kernel
theorem boot_list : bootBuiltins "list" = some (.type "list") := by decide +kernel
theorem boot_tuple : bootBuiltins "tuple" = some (.type "tuple") := by decide +kernel
theorem boot_dict : bootBuiltins "dict" = some (.type "dict") := by decide +kernel
theorem boot_set : bootBuiltins "set" = some (.type "set") := by decide +kernel
theorem boot_ValueError : bootBuiltins "ValueError" = some (.type "ValueError") := by decide +kernel
section
variable {X : Cx} {K : PySem.W.Frag} {H : Hp} {Q : VK} {v : V}
abbrev rStrA : R2 := fun x y H Q => ∃ i j, x = .str i ∧ y = .str j ∧ i.length + j.length ≤ sizeLine ∧ Q (.str (i ++ j)) H
abbrev rIntB : R2 := fun x y H Q => ∃ i k, x = .int i ∧ y = .bl k ∧ Q (.int (i + b2i k)) H
def rAddX (K : PySem.W.Frag) : R2 := fun x y H Q => rI0 (fun i j => .int (i + j)) x y H Q ∨ rStrA x y H Q ∨ rCat x y H Q ∨ rCatT K x y H Q ∨ rIntB x y H Q
theorem op_addX : OpR X (binaryOp .Add) (rAddX X.K) := op_add.or (op_add_str.or (op_cat.or (op_catT.or op_add_ib)))
theorem go_addI {a b : Int} (h : Q (.int (a + b)) H) : rAddX K (.int a) (.int b) H Q := .inl ⟨a, b, rfl, rfl, h⟩
theorem go_addS {a b : Str} (z : a.length + b.length ≤ sizeLine) (h : Q (.str (a ++ b)) H) : rAddX K (.str a) (.str b) H Q := .inr (.inl ⟨a, b, rfl, rfl, z, h⟩)
theorem go_addB {a : Int} {b : Bool} (h : Q (.int (a + b2i b)) H) : rAddX K (.int a) (.bl b) H Q := .inr (.inr (.inr (.inr ⟨a, b, rfl, rfl, h⟩)))
theorem go_addL {p q : Addr} {xs ys : List V} (hp : H p = some (.lst xs)) (hq : H q = some (.lst ys)) (z : xs.length + ys.length ≤ sizeLine) (h : NewO (.lst (xs ++ ys)) H Q) : rAddX K (.ref p) (.ref q) H Q :=
  .inr (.inr (.inl ⟨p, q, xs, ys, rfl, rfl, hp, hq, z, h⟩))
theorem go_addT {p q : Addr} {x : V} {xs : List V} {y : V} {ys : List V} (hp : SqT K H p (x :: xs)) (hq : SqT K H q (y :: ys)) (z : (x :: xs).length + (y :: ys).length ≤ sizeLine) (h : NewO (.tup (x :: xs ++ y :: ys)) H Q) : rAddX K (.ref p) (.ref q) H Q :=
  .inr (.inr (.inr (.inl ⟨p, q, _, _, rfl, rfl, hp, hq, by simp, z, (fun e => nomatch e), fun _ => h⟩)))
/-- whole numbers, or a list so many times -/
def rMulS : R2 := fun x y H Q => ∃ a n, x = .str a ∧ y = .int n ∧ MulOk a n ∧ Q (.str (Txt.mul a n)) H
theorem op_mulS : OpR X (binaryOp .Mult) rMulS := by
  intro pins s σ H x y v u Q I rx ry h
  obtain ⟨a, n, rfl, rfl, ok, q⟩ := h
  obtain ⟨t, rfl⟩ := rx
  obtain ⟨t', rfl⟩ := ry
  exact SB.mul ok fun t' k => ⟨.str _, H, I.tok k, ⟨t', rfl⟩, q⟩
def rMulX : R2 := fun x y H Q => rI CMul (fun i j => .int (i * j)) x y H Q ∨ rRep x y H Q ∨ rMulS x y H Q
theorem op_mulX : OpR X (binaryOp .Mult) rMulX := op_mul.or (op_rep.or op_mulS)
theorem go_mulS {a : Str} {n : Int} (ok : MulOk a n) (h : Q (.str (Txt.mul a n)) H) : rMulX (.str a) (.int n) H Q := .inr (.inr ⟨a, n, rfl, rfl, ok, h⟩)
theorem go_mulI {a b : Int} (c : CMul a b) (h : Q (.int (a * b)) H) : rMulX (.int a) (.int b) H Q := .inl ⟨a, b, rfl, rfl, c, h⟩
/-- == -/
def rEqX (K : PySem.W.Frag) : R2 := fun x y H Q => rEq x y H Q ∨ rEqD K x y H Q
def rNeX (K : PySem.W.Frag) : R2 := fun x y H Q => rNe x y H Q ∨ rNeD K x y H Q
theorem op_eqX (hu : X.A.units + 64 < cLine) : OpR X (compareOp .Eq) (rEqX X.K) := op_eq.or (op_eqD hu)
theorem op_neX (hu : X.A.units + 64 < cLine) : OpR X (compareOp .NotEq) (rNeX X.K) := op_ne.or (op_neD hu)
theorem go_eqS {x y : V} (e : scal x y = true) (h : Q (.bl (decide (x = y))) H) : rEqX K x y H Q := .inl ⟨e, h⟩
theorem go_neS {x y : V} (e : scal x y = true) (h : Q (.bl (!decide (x = y))) H) : rNeX K x y H Q := .inl ⟨e, h⟩
/-- in -/
theorem op_in_d (hu : X.A.units + 1 < cLine) : OpR X (compareOp .In) (fun y x H Q => ∃ a o, x = .ref a ∧ DGet H a y o ∧ Q (.bl o.isSome) H) := by
  intro pins s σ H y x iv u Q I ry rx h
  obtain ⟨a, o, rfl, g, q⟩ := h
  cases rx
  exact d_in hu I g ry fun s3 I3 => ⟨.bl o.isSome, H, I3, rfl, q⟩
theorem op_notIn_d (hu : X.A.units + 1 < cLine) : OpR X (compareOp .NotIn) (fun y x H Q => ∃ a o, x = .ref a ∧ DGet H a y o ∧ Q (.bl (!o.isSome)) H) := by
  intro pins s σ H y x iv u Q I ry rx h
  obtain ⟨a, o, rfl, g, q⟩ := h
  cases rx
  exact d_notIn hu I g ry fun s3 I3 => ⟨.bl (!o.isSome), H, I3, rfl, q⟩
abbrev rInD : R2 := fun y x H Q => ∃ a o, x = .ref a ∧ DGet H a y o ∧ Q (.bl o.isSome) H
abbrev rNotInD : R2 := fun y x H Q => ∃ a o, x = .ref a ∧ DGet H a y o ∧ Q (.bl (!o.isSome)) H
def rInX (K : PySem.W.Frag) : R2 := fun x y H Q => rIn K false x y H Q ∨ rInS x y H Q ∨ rInD x y H Q
def rNotInX (K : PySem.W.Frag) : R2 := fun x y H Q => rIn K true x y H Q ∨ rNotInS x y H Q ∨ rNotInD x y H Q
theorem op_inX (hu : X.A.units + 1 < cLine) : OpR X (compareOp .In) (rInX X.K) := op_in_seq.or (op_inS.or (op_in_d hu))
theorem op_notInX (hu : X.A.units + 1 < cLine) : OpR X (compareOp .NotIn) (rNotInX X.K) := op_notIn_seq.or (op_notInS.or (op_notIn_d hu))
theorem go_inL {x : V} {p : Addr} {xs : List V} (hp : SqL K H p xs) (fx : flatV x = true) (fs : xs.all flatV = true) (h : Q (.bl (inV x xs)) H) : rInX K x (.ref p) H Q := .inl ⟨p, xs, rfl, .inl hp, fx, fs, h⟩
theorem go_inT {x : V} {p : Addr} {xs : List V} (hp : SqT K H p xs) (fx : flatV x = true) (fs : xs.all flatV = true) (h : Q (.bl (inV x xs)) H) : rInX K x (.ref p) H Q := .inl ⟨p, xs, rfl, .inr hp, fx, fs, h⟩
theorem go_inSg {c : Nat} {z : Str} (h : Q (.bl (decide (c ∈ z.cps.toList))) H) : rInX K (.str ⟨#[c]⟩) (.str z) H Q := .inr (.inl ⟨c, z, rfl, rfl, h⟩)
theorem go_inK {p : Addr} {kvs : List (Key × V)} (k : Key) (hp : H p = some (.dK kvs)) (h : Q (.bl (valV kvs k).isSome) H) : rInX K (kV k) (.ref p) H Q := .inr (.inr ⟨p, _, rfl, DGet.k hp, h⟩)
theorem go_ninL {x : V} {p : Addr} {xs : List V} (hp : SqL K H p xs) (fx : flatV x = true) (fs : xs.all flatV = true) (h : Q (.bl (!inV x xs)) H) : rNotInX K x (.ref p) H Q := .inl ⟨p, xs, rfl, .inl hp, fx, fs, h⟩
theorem go_ninT {x : V} {p : Addr} {xs : List V} (hp : SqT K H p xs) (fx : flatV x = true) (fs : xs.all flatV = true) (h : Q (.bl (!inV x xs)) H) : rNotInX K x (.ref p) H Q := .inl ⟨p, xs, rfl, .inr hp, fx, fs, h⟩
theorem go_ninSg {c : Nat} {z : Str} (h : Q (.bl (!decide (c ∈ z.cps.toList))) H) : rNotInX K (.str ⟨#[c]⟩) (.str z) H Q := .inr (.inl ⟨c, z, rfl, rfl, h⟩)
theorem go_ninK {p : Addr} {kvs : List (Key × V)} (k : Key) (hp : H p = some (.dK kvs)) (h : Q (.bl (!(valV kvs k).isSome)) H) : rNotInX K (kV k) (.ref p) H Q := .inr (.inr ⟨p, _, rfl, DGet.k hp, h⟩)
/-- is: None alone, or a truth -/
abbrev rIsO : R2 := fun x y H Q => ∃ a b oa ob, x = .ref a ∧ y = .ref b ∧ H a = some oa ∧ isObj oa = true ∧ H b = some ob ∧ isObj ob = true ∧ Q (.bl (decide (a = b))) H
abbrev rNotO : R2 := fun x y H Q => ∃ a b oa ob, x = .ref a ∧ y = .ref b ∧ H a = some oa ∧ isObj oa = true ∧ H b = some ob ∧ isObj ob = true ∧ Q (.bl (!decide (a = b))) H
abbrev rIsC (K : PySem.W.Frag) : R2 := fun x y H Q => ∃ a b, x = V.ref a ∧ y = V.ref b ∧ (a = b ∨ (PySem.W.makesIn K a = true ∧ PySem.W.makesIn K b = true)) ∧ Q (.bl (decide (a = b))) H
abbrev rNotC (K : PySem.W.Frag) : R2 := fun x y H Q => ∃ a b, x = V.ref a ∧ y = V.ref b ∧ (a = b ∨ (PySem.W.makesIn K a = true ∧ PySem.W.makesIn K b = true)) ∧ Q (.bl (!decide (a = b))) H
def rIsX (K : PySem.W.Frag) : R2 := fun x y H Q => rIsN x y H Q ∨ rIsB x y H Q ∨ rIsO x y H Q ∨ rIsC K x y H Q
def rIsNotX (K : PySem.W.Frag) : R2 := fun x y H Q => rNotN x y H Q ∨ rNotB x y H Q ∨ rNotO x y H Q ∨ rNotC K x y H Q
theorem op_isX : OpR X (compareOp .Is) (rIsX X.K) := op_isN1.or (op_isBl.or (op_is_ref.or op_is_cls))
theorem op_isNotX : OpR X (compareOp .IsNot) (rIsNotX X.K) := op_notN1.or (op_notBl.or (op_isnot_ref.or op_isnot_cls))
theorem go_isN {x : V} (h : Q (.bl (decide (x = .non))) H) : rIsX K x .non H Q := .inl ⟨rfl, h⟩
theorem go_notN {x : V} (h : Q (.bl (!decide (x = .non))) H) : rIsNotX K x .non H Q := .inl ⟨rfl, h⟩
theorem go_isB {a b : Bool} (h : Q (.bl (decide (a = b))) H) : rIsX K (.bl a) (.bl b) H Q := .inr (.inl ⟨_, _, rfl, rfl, h⟩)
theorem go_notB {a b : Bool} (h : Q (.bl (!decide (a = b))) H) : rIsNotX K (.bl a) (.bl b) H Q := .inr (.inl ⟨_, _, rfl, rfl, h⟩)
/-- o[i] -/
abbrev rIxD : R2 := fun x y H Q => ∃ a v, x = .ref a ∧ DGet H a y (some v) ∧ Q v H
theorem ix_dict (hu : X.A.units + 1 < cLine) : IxR X rIxD := by
  intro value slice pins s σ H x y v u Q I rx ry h hs
  obtain ⟨a, z, rfl, g, q⟩ := h
  cases rx
  exact tail_any (dict_typeIs I g) PySem.F.slot_dict_getitem.lookup (d_getItem hu I g ry fun w' s3 I3 rw' => ⟨z, H, I3, rw', q⟩) hs
def rIxX (K : PySem.W.Frag) : R2 := fun x y H Q => rIxL K x y H Q ∨ rIxT K x y H Q ∨ rIxS x y H Q ∨ rIxD x y H Q
theorem ix_X (hu : X.A.units + 1 < cLine) : IxR X (rIxX X.K) := ix_list.or (ix_tup.or (ix_str.or (ix_dict hu)))
theorem go_xL {p : Addr} {xs : List V} {j : Int} (hp : SqL K H p xs) (ha : atI xs j = some v) (h : Q v H) : rIxX K (.ref p) (.int j) H Q := .inl ⟨p, xs, j, v, rfl, rfl, hp, ha, h⟩
theorem go_xT {p : Addr} {xs : List V} {j : Int} (hp : SqT K H p xs) (ha : atI xs j = some v) (h : Q v H) : rIxX K (.ref p) (.int j) H Q := .inr (.inl ⟨p, xs, j, v, rfl, rfl, hp, ha, h⟩)
theorem go_xS {z : Str} {j : Int} {c : Nat} (hz : z.length ≤ sizeLine) (ha : atI z.cps.toList j = some c) (h : Q (.str ⟨#[c]⟩) H) : rIxX K (.str z) (.int j) H Q := .inr (.inr (.inl ⟨z, j, c, rfl, rfl, hz, ha, h⟩))
theorem go_xK {p : Addr} {kvs : List (Key × V)} (k : Key) (hp : H p = some (.dK kvs)) (hv : valV kvs k = some v) (h : Q v H) : rIxX K (.ref p) (kV k) H Q := .inr (.inr (.inr ⟨p, v, rfl, hv ▸ DGet.k hp, h⟩))
theorem go_xKs {p : Addr} {kvs : List (Key × V)} {z : Str} (hp : H p = some (.dK kvs)) (hv : valV kvs (Sum.inr z) = some v) (h : Q v H) : rIxX K (.ref p) (.str z) H Q := go_xK (Sum.inr z) hp hv h
/-- o[i] = e -/
theorem PSet.or {r r' : TSet} (h : PSet X r) (h' : PSet X r') : PSet X (fun o i v H Q => r o i v H Q ∨ r' o i v H Q) := by
  intro pins s σ H o i v ov iv u Q I ro ri rv q
  rcases q with q | q
  · exact h pins s σ H o i v ov iv u Q I ro ri rv q
  · exact h' pins s σ H o i v ov iv u Q I ro ri rv q
abbrev rSetD : TSet := fun o i v H Q => ∃ a H4, o = .ref a ∧ DPut H a i v H4 ∧ Q H4
theorem set_dict (hu : X.A.units + 1 < cLine) : PSet X rSetD := by
  intro pins s σ H o i v ov iv u Q I ro ri rv h
  obtain ⟨a, H4, rfl, g, q⟩ := h
  cases ro
  exact d_setItem hu I g ri rv fun s4 I4 => ⟨H4, I4, q⟩
def rSetX : TSet := fun o i v H Q => rSetL o i v H Q ∨ rSetD o i v H Q
theorem set_X (hu : X.A.units + 1 < cLine) : PSet X rSetX := PSet.or set_list (set_dict hu)
variable {QH : Hp → Prop}
theorem go_sL {l : Addr} {xs : List V} {j : Int} {n : Nat} (hl : H l = some (.lst xs)) (hj : ixN xs.length j = some n) (h : QH (upd H l (.lst (xs.set n v)))) : rSetX (.ref l) (.int j) v H QH := .inl ⟨l, xs, j, n, rfl, rfl, hl, hj, h⟩
theorem go_sK {p : Addr} {kvs : List (Key × V)} (k : Key) (hp : H p = some (.dK kvs)) (z : kvs.length < sizeLine) (h : QH (upd H p (.dK (putK kvs k v)))) : rSetX (.ref p) (kV k) v H QH := .inr ⟨p, _, rfl, DPut.k hp z, h⟩
theorem go_sKs {p : Addr} {kvs : List (Key × V)} {x : Str} (hp : H p = some (.dK kvs)) (z : kvs.length < sizeLine) (h : QH (upd H p (.dK (putK kvs (Sum.inr x) v)))) : rSetX (.ref p) (.str x) v H QH := go_sK (Sum.inr x) hp z h
/-- slices -/
abbrev rSlS : V → Option Int → Option Int → Hp → VK → Prop := fun x lo hi H Q => ∃ z, x = .str z ∧ z.length ≤ sizeLine ∧ Q (.str (cutS z lo hi)) H
def rSlX (K : PySem.W.Frag) : V → Option Int → Option Int → Hp → VK → Prop := fun x lo hi H Q => rSlL K x lo hi H Q ∨ rSlT K x lo hi H Q ∨ rSlS x lo hi H Q
theorem sl_X : SlR X (rSlX X.K) := sl_list.or (sl_tup.or sl_str)
/-- len, int, isinstance, truth -/
abbrev rLenD : List V → Hp → VK → Prop := fun xs H Q => ∃ a kvs, xs = [V.ref a] ∧ H a = some (.dK kvs) ∧ Q (.int kvs.length) H
abbrev rLenV (K : PySem.W.Frag) : List V → Hp → VK → Prop := fun xs H Q => ∃ x n, xs = [x] ∧ LenV K x H n ∧ Q (.int n) H
def rLenX (K : PySem.W.Frag) : List V → Hp → VK → Prop := fun xs H Q => rLenV K xs H Q ∨ rLenD xs H Q
theorem call_lenX : CallR X (.builtin "len") (rLenX X.K) := call_len.or call_lenD
theorem go_lenL {p : Addr} {xs : List V} (hp : SqL K H p xs) (h : Q (.int xs.length) H) : rLenX K [.ref p] H Q := .inl ⟨_, _, rfl, .inl ⟨xs, hp, rfl⟩, h⟩
theorem go_lenT {p : Addr} {xs : List V} (hp : SqT K H p xs) (h : Q (.int xs.length) H) : rLenX K [.ref p] H Q := .inl ⟨_, _, rfl, .inr ⟨xs, hp, rfl⟩, h⟩
theorem go_lenS {z : Str} (hz : z.length ≤ sizeLine) (h : Q (.int z.length) H) : rLenX K [.str z] H Q := .inl ⟨.str z, z.length, rfl, ⟨hz, rfl⟩, h⟩
theorem go_lenD {p : Addr} {kvs : List (Key × V)} (hp : H p = some (.dK kvs)) (h : Q (.int kvs.length) H) : rLenX K [.ref p] H Q := .inr ⟨p, kvs, rfl, hp, h⟩
abbrev rInt1 : List V → Hp → VK → Prop := fun xs H Q => (∃ i, xs = [.int i] ∧ Q (.int i) H) ∨ ∃ k, xs = [.bl k] ∧ Q (.int (if k then 1 else 0)) H
abbrev rIntS : List V → Hp → VK → Prop := fun xs H Q => ∃ a n, xs = [.str a] ∧ PySem.intText? a = some n ∧ a.length ≤ 640 ∧ Q (.int n) H
def rIntX : List V → Hp → VK → Prop := fun xs H Q => rInt1 xs H Q ∨ rIntS xs H Q
theorem call_intX : CallR X (.type "int") rIntX := call_int1.or call_int_str
theorem go_intI {i : Int} (h : Q (.int i) H) : rIntX [.int i] H Q := .inl (.inl ⟨i, rfl, h⟩)
theorem go_intB {k : Bool} (h : Q (.int (if k then 1 else 0)) H) : rIntX [.bl k] H Q := .inl (.inr ⟨k, rfl, h⟩)
theorem go_intS {a : Str} {n : Int} (e : PySem.intText? a = some n) (z : a.length ≤ 640) (h : Q (.int n) H) : rIntX [.str a] H Q := .inr ⟨a, n, rfl, e, z, h⟩
def rIsiX (K : PySem.W.Frag) : List V → Hp → VK → Prop := fun xs H Q => rIsi K xs H Q ∨ rIsiT K xs H Q
theorem call_isiX : CallR X (.builtin "isinstance") (rIsiX X.K) := call_isi.or call_isiT
theorem go_isi {x : V} {T U : String} {b : Bool} (ty : TyX K H x (.type U)) (e : kitB U T = some b) (h : Q (.bl b) H) : rIsiX K [x, .ty T] H Q := .inl ⟨x, .ty T, .type U, .type T, b, rfl, .ty T, ty, kit_ty e, h⟩
def rListO (K : PySem.W.Frag) : List V → Hp → VK → Prop := fun xs H Q => ∃ p ys, xs = [.ref p] ∧ (SqL K H p ys ∨ SqT K H p ys) ∧ ∀ l, H l = none → Q (.ref l) (upd H l (.lst ys))
theorem call_listO : CallR X (.type "list") (rListO X.K) := call_list_of
def rTupO (K : PySem.W.Frag) : List V → Hp → VK → Prop := fun xs H Q => ∃ p ys, xs = [.ref p] ∧ ((SqL K H p ys ∧ ∀ l, H l = none → Q (.ref l) (upd H l (.tup ys))) ∨ (SqT K H p ys ∧ Q (.ref p) H))
theorem call_tupO : CallR X (.type "tuple") (rTupO X.K) := call_tuple_of
def rMx2 : List V → Hp → VK → Prop := fun xs H Q => ∃ i j, xs = [.int i, .int j] ∧ Q (.int (if j > i then j else i)) H
def rMn2 : List V → Hp → VK → Prop := fun xs H Q => ∃ i j, xs = [.int i, .int j] ∧ Q (.int (if j < i then j else i)) H
theorem call_mx2 (hc : X.calm = true) : CallR X (.builtin "max") rMx2 := call_max2 hc
theorem call_mn2 (hc : X.calm = true) : CallR X (.builtin "min") rMn2 := call_min2 hc
def rAbsI : List V → Hp → VK → Prop := fun xs H Q => ∃ i, xs = [.int i] ∧ Q (.int (if i < 0 then -i else i)) H
theorem call_absI : CallR X (.builtin "abs") rAbsI := call_abs
def rStrI : List V → Hp → VK → Prop := fun xs H Q => ∃ i, xs = [.int i] ∧ i.natAbs.log2 < 1920 ∧ Q (.str (toString i)) H
theorem call_strI : CallR X (.type "str") rStrI := call_str_int
theorem go_listL {l : Addr} {xs : List V} (hS : SqL K H l xs) (h : NewO (.lst xs) H Q) : rListO K [V.ref l] H Q := ⟨l, xs, rfl, .inl hS, h⟩
theorem go_listT {l : Addr} {xs : List V} (hS : SqT K H l xs) (h : NewO (.lst xs) H Q) : rListO K [V.ref l] H Q := ⟨l, xs, rfl, .inr hS, h⟩
theorem go_tupL {l : Addr} {xs : List V} (hS : SqL K H l xs) (h : NewO (.tup xs) H Q) : rTupO K [V.ref l] H Q := ⟨l, xs, rfl, .inl ⟨hS, h⟩⟩
theorem go_tupT {l : Addr} {xs : List V} (hS : SqT K H l xs) (h : Q (.ref l) H) : rTupO K [V.ref l] H Q := ⟨l, xs, rfl, .inr ⟨hS, h⟩⟩
theorem go_max {a b : Int} (h : Q (.int (max a b)) H) : rMx2 [V.int a, V.int b] H Q := ⟨a, b, rfl, by
  have e : (if b > a then b else a) = max a b := by
    by_cases c : b > a
    · rw [if_pos c]; omega
    · rw [if_neg c]; omega
  rw [e]; exact h⟩
theorem go_min {a b : Int} (h : Q (.int (min a b)) H) : rMn2 [V.int a, V.int b] H Q := ⟨a, b, rfl, by
  have e : (if b < a then b else a) = min a b := by
    by_cases c : b < a
    · rw [if_pos c]; omega
    · rw [if_neg c]; omega
  rw [e]; exact h⟩
theorem go_abs {a : Int} (h : Q (.int a.natAbs) H) : rAbsI [V.int a] H Q := ⟨a, rfl, by
  have e : (if a < 0 then -a else a) = (a.natAbs : Int) := by
    by_cases c : a < 0
    · rw [if_pos c]; omega
    · rw [if_neg c]; omega
  rw [e]; exact h⟩
theorem go_str {a : Int} (z : a.natAbs.log2 < 1920) (h : Q (.str (toString a)) H) : rStrI [V.int a] H Q := ⟨a, rfl, z, h⟩
def tTruX (K : PySem.W.Frag) (te : TE) : TT := fun σ H Q => te σ H fun x H' => ∃ k, TruV K x H' k ∧ Q k H'
theorem pt_truX {a : Expr} {ta : TE} (ha : PE X a ta) (he : ∀ whole, isTrue a X.env whole = (do let v ← whole; standAt a.pos; holding [v] (truthy v)) := by intro _; rfl) : PT X a (tTruX X.K ta) := pt_truth ha he
def KT (K : PySem.W.Frag) (x : V) (H : Hp) (QB : Bool → Hp → Prop) : Prop := ∃ k, TruV K x H k ∧ QB k H
theorem go_tru {te : TE} {σ : St} {QB : Bool → Hp → Prop} (h : te σ H fun x H' => KT K x H' QB) : tTruX K te σ H QB := h
theorem go_truB {b : Bool} {QB : Bool → Hp → Prop} (h : QB b H) : KT K (.bl b) H QB := ⟨b, rfl, h⟩
theorem go_truI {i : Int} {QB : Bool → Hp → Prop} (h : QB (i != 0) H) : KT K (.int i) H QB := ⟨_, rfl, h⟩
theorem go_truN {QB : Bool → Hp → Prop} (h : QB false H) : KT K .non H QB := ⟨_, rfl, h⟩
theorem kit_ii : kitB "int" "int" = some true := by decide +kernel
theorem kit_ib : kitB "int" "bool" = some false := by decide +kernel
theorem kit_bb : kitB "bool" "bool" = some true := by decide +kernel
theorem kit_bi : kitB "bool" "int" = some true := by decide +kernel
theorem kit_ss : kitB "str" "str" = some true := by decide +kernel
theorem kit_nb : kitB "NoneType" "bool" = some false := by decide +kernel
theorem kit_ni : kitB "NoneType" "int" = some false := by decide +kernel
theorem kit_ns : kitB "NoneType" "str" = some false := by decide +kernel
theorem kit_nt : kitB "NoneType" "tuple" = some false := by decide +kernel
theorem kit_is : kitB "int" "str" = some false := by decide +kernel
theorem kit_si : kitB "str" "int" = some false := by decide +kernel
theorem kit_sb : kitB "str" "bool" = some false := by decide +kernel
theorem kit_tt : kitB "tuple" "tuple" = some true := by decide +kernel
theorem kit_ll : kitB "list" "list" = some true := by decide +kernel
theorem kit_tl : kitB "tuple" "list" = some false := by decide +kernel
theorem kit_lt : kitB "list" "tuple" = some false := by decide +kernel
theorem kit_bs : kitB "bool" "str" = some false := by decide +kernel
/-- a list or a tuple that is walked -/
def IX (K : PySem.W.Frag) (x : V) (H1 : Hp) (R : It → Hp → Prop) : Prop := (∃ a, x = .ref a ∧ (∃ xs, SqL K H1 a xs) ∧ R (Itl K a) H1) ∨ (∃ a, x = .ref a ∧ (∃ xs, SqT K H1 a xs) ∧ R (Itt K a) H1) ∨ (∃ z, x = .str z ∧ R (Its z) H1)
def iX (K : PySem.W.Frag) (tl : TE) : TI := fun σ H R => tl σ H fun x H1 => (∃ a, x = .ref a ∧ (∃ xs, SqL K H1 a xs) ∧ R (Itl K a) H1) ∨ (∃ a, x = .ref a ∧ (∃ xs, SqT K H1 a xs) ∧ R (Itt K a) H1) ∨ (∃ z, x = .str z ∧ R (Its z) H1)
theorem pi_X {tg l : Expr} {tl : TE} (hl : PE X l tl) : PI X tg l (iX X.K tl) := by
  refine ⟨fun pins s σ H R I h => ?_⟩
  refine thn (hl.run pins s σ H _ I h) fun v s1 ⟨x, H1, I1, r1, q1⟩ => ?_
  rcases q1 with ⟨a, ex, ⟨xs, hq⟩, q⟩ | ⟨a, ex, ⟨xs, hq⟩, q⟩ | ⟨z, ex, q⟩
  · subst ex
    cases r1
    obtain ⟨its, rv, p, hz⟩ := I1.list hq
    refine wpAny_pyIter_list p.isList ?_
    refine ⟨s1.heap.objs.size, [s1.heap.objs.size], _, _, H1, rfl, I1.kept (t' := s1.toks) fun b o e => Heap.get?_push_of_some _ e, turn_list a _, ⟨_, Heap.get?_push_size _ rfl, rfl, rfl⟩, fun b hb => ?_, q⟩
    have e : b = s1.heap.objs.size := by simpa using hb
    subst e
    exact I1.fpOk (Nat.le_refl _) (I1.hok.fresh (Nat.le_refl _))
  · subst ex
    cases r1
    obtain ⟨its, rv, p, hz⟩ := I1.tuple hq
    refine wpAny_pyIter_tuple (show s1.heap.IsTuple a its.toArray from p) ?_
    refine ⟨s1.heap.objs.size, [s1.heap.objs.size], _, _, H1, rfl, I1.kept (t' := s1.toks) fun b o e => Heap.get?_push_of_some _ e, turn_tuple a _, ⟨_, Heap.get?_push_size _ rfl, rfl, rfl⟩, fun b hb => ?_, q⟩
    have e : b = s1.heap.objs.size := by simpa using hb
    subst e
    exact I1.fpOk (Nat.le_refl _) (I1.hok.fresh (Nat.le_refl _))
  · subst ex
    obtain ⟨t, rfl⟩ := r1
    cases ha : z.cps.all (· < 128)
    · exact wpAny_pyIter_wide ha (pi_one (tk := s1.toks) I1 _ (turn_str _ z t "str_iterator" (.inr rfl)) ⟨_, Heap.get?_push_size _ rfl, rfl, rfl⟩ q)
    · exact wpAny_pyIter_ascii ha (pi_one (tk := s1.toks) I1 _ (turn_str _ z t "str_ascii_iterator" (.inl rfl)) ⟨_, Heap.get?_push_size _ rfl, rfl, rfl⟩ q)
end
end L2.A

namespace L2.A
open PySem PySem.Spec PyProof.Rows
theorem go_start {t : TS} {D : Ends} {N : List Str} {vs : List V} {σ : St} {H : Hp} (e : start N vs = σ) (h : t D σ H) : t D (start N vs) H := by rw [e]; exact h
theorem ite_T {b : Bool} {A B : Prop} (e : b = true) (h : A) : if b = true then A else B := by rw [if_pos e]; exact h
theorem ite_F {b : Bool} {A B : Prop} (e : b = false) (h : B) : if b = true then A else B := by rw [e]; exact iteF h
/-- promises by the number of arguments -/
def Sp0 (R : Hp → VK → XK → Prop) : Sp := fun vs H Q E => vs = [] ∧ R H Q E
def Sp1 (R : V → Hp → VK → XK → Prop) : Sp := fun vs H Q E => ∃ a, vs = [a] ∧ R a H Q E
def Sp2 (R : V → V → Hp → VK → XK → Prop) : Sp := fun vs H Q E => ∃ a b, vs = [a, b] ∧ R a b H Q E
def Sp3 (R : V → V → V → Hp → VK → XK → Prop) : Sp := fun vs H Q E => ∃ a b c, vs = [a, b, c] ∧ R a b c H Q E
def Sp4 (R : V → V → V → V → Hp → VK → XK → Prop) : Sp := fun vs H Q E => ∃ a b c d, vs = [a, b, c, d] ∧ R a b c d H Q E
def Sp5 (R : V → V → V → V → V → Hp → VK → XK → Prop) : Sp := fun vs H Q E => ∃ a b c d e, vs = [a, b, c, d, e] ∧ R a b c d e H Q E
section
variable {vs : List V} {H : Hp} {Q : VK} {E : XK} {a b c d e : V}
theorem len0 {R} (h : Sp0 R vs H Q E) : vs.length = 0 := by obtain ⟨rfl, _⟩ := h; rfl
theorem len1 {R} (h : Sp1 R vs H Q E) : vs.length = 1 := by obtain ⟨_, rfl, _⟩ := h; rfl
theorem len2 {R} (h : Sp2 R vs H Q E) : vs.length = 2 := by obtain ⟨_, _, rfl, _⟩ := h; rfl
theorem len3 {R} (h : Sp3 R vs H Q E) : vs.length = 3 := by obtain ⟨_, _, _, rfl, _⟩ := h; rfl
theorem len4 {R} (h : Sp4 R vs H Q E) : vs.length = 4 := by obtain ⟨_, _, _, _, rfl, _⟩ := h; rfl
theorem len5 {R} (h : Sp5 R vs H Q E) : vs.length = 5 := by obtain ⟨_, _, _, _, _, rfl, _⟩ := h; rfl
theorem go_sp0 {R} (h : R H Q E) : Sp0 R ([] ++ []) H Q E := ⟨rfl, h⟩
theorem go_sp1 {R} (h : R a H Q E) : Sp1 R ([a] ++ []) H Q E := ⟨a, rfl, h⟩
theorem go_sp2 {R} (h : R a b H Q E) : Sp2 R ([a, b] ++ []) H Q E := ⟨a, b, rfl, h⟩
theorem go_sp3 {R} (h : R a b c H Q E) : Sp3 R ([a, b, c] ++ []) H Q E := ⟨a, b, c, rfl, h⟩
theorem go_sp4 {R} (h : R a b c d H Q E) : Sp4 R ([a, b, c, d] ++ []) H Q E := ⟨a, b, c, d, rfl, h⟩
theorem go_sp5 {R} (h : R a b c d e H Q E) : Sp5 R ([a, b, c, d, e] ++ []) H Q E := ⟨a, b, c, d, e, rfl, h⟩
end
end L2.A
namespace L2.A
open PySem PySem.Spec PyProof.Rows
section
variable {K : PySem.W.Frag} {H : Hp} {Q : VK} {v : V} {σ : St} {D : Ends}
def ForW (J : It) (g : TG) (tb : TS) (D : Ends) (σ : St) (H1 : Hp) : Prop := ∃ W : Nat → Nat → St → Hp → Prop, (∃ m, W 0 m σ H1) ∧ ∀ i m σ H, W i m σ H →
  (J.stop i H ∧ D.nx σ H) ∨ (J.go i H ∧ ∃ N : St → Hp → Prop, (∀ σ' H', N σ' H' → ∃ m', m' < m ∧ W (i + 1) m' σ' H') ∧ ∀ x H', J.yld i H x H' → g x σ H' fun σ2 H2 => tb { D with nx := N, ct := N, bk := D.nx } σ2 H2)
theorem go_for {wi : TI} {g : TG} {tb : TS} (h : wi σ H fun J H1 => ForW J g tb D σ H1) : tFor wi g tb D σ H := h
theorem ForW.list {a : Addr} {xs : List V} {g : TG} {tb : TS} (Pv : Nat → St → Hp → Prop) (h0 : Pv 0 σ H) (hl : ∀ i σ H, i ≤ xs.length → Pv i σ H → SqL K H a xs)
    (hs : ∀ i x σ H, xs[i]? = some x → Pv i σ H → g x σ H fun σ2 H2 => tb { D with nx := Pv (i + 1), ct := Pv (i + 1), bk := D.nx } σ2 H2) (hd : ∀ σ H, Pv xs.length σ H → D.nx σ H) : ForW (Itl K a) g tb D σ H := for_list Pv h0 hl hs hd
theorem ForW.tup {a : Addr} {xs : List V} {g : TG} {tb : TS} (Pv : Nat → St → Hp → Prop) (h0 : Pv 0 σ H) (hl : ∀ i σ H, i ≤ xs.length → Pv i σ H → SqT K H a xs)
    (hs : ∀ i x σ H, xs[i]? = some x → Pv i σ H → g x σ H fun σ2 H2 => tb { D with nx := Pv (i + 1), ct := Pv (i + 1), bk := D.nx } σ2 H2) (hd : ∀ σ H, Pv xs.length σ H → D.nx σ H) : ForW (Itt K a) g tb D σ H := for_tup Pv h0 hl hs hd
theorem ForW.range {lo : Int} {n : Nat} {g : TG} {tb : TS} (Pv : Nat → St → Hp → Prop) (h0 : Pv 0 σ H)
    (hs : ∀ i σ H, i < n → Pv i σ H → g (.int (lo + i)) σ H fun σ2 H2 => tb { D with nx := Pv (i + 1), ct := Pv (i + 1), bk := D.nx } σ2 H2) (hd : ∀ σ H, Pv n σ H → D.nx σ H) : ForW (Itr lo n) g tb D σ H := for_range Pv h0 hs hd
theorem ForW.str {z : Str} {g : TG} {tb : TS} (Pv : Nat → St → Hp → Prop) (h0 : Pv 0 σ H)
    (hs : ∀ i c σ H, z.cps.toList[i]? = some c → Pv i σ H → g (.str ⟨#[c]⟩) σ H fun σ2 H2 => tb { D with nx := Pv (i + 1), ct := Pv (i + 1), bk := D.nx } σ2 H2) (hd : ∀ σ H, Pv z.cps.toList.length σ H → D.nx σ H) : ForW (Its z) g tb D σ H := by
  refine ⟨fun i m σ H => m = z.cps.size - i ∧ i ≤ z.cps.size ∧ Pv i σ H, ⟨z.cps.size, by simp, Nat.zero_le _, h0⟩, ?_⟩
  rintro i m σ H ⟨rfl, hi, p⟩
  by_cases hlt : i < z.cps.size
  · refine .inr ⟨hlt, Pv (i + 1), fun σ' H' p' => ⟨z.cps.size - (i + 1), by omega, rfl, hlt, p'⟩, fun x H' y => ?_⟩
    obtain ⟨e, c, hc, hx⟩ := y
    subst e hx
    exact hs i c σ _ (by simpa using hc) p
  · have e : i = z.cps.size := by omega
    subst e
    exact .inl ⟨Nat.le_refl _, hd σ H (by simpa using p)⟩
theorem go_iX {tl : TE} {R : It → Hp → Prop} (h : tl σ H fun x H1 => IX K x H1 R) : iX K tl σ H R := h
theorem go_iL {a : Addr} {xs : List V} {R : It → Hp → Prop} (hS : SqL K H a xs) (h : R (Itl K a) H) : IX K (.ref a) H R := .inl ⟨a, rfl, ⟨xs, hS⟩, h⟩
theorem go_iT {a : Addr} {xs : List V} {R : It → Hp → Prop} (hS : SqT K H a xs) (h : R (Itt K a) H) : IX K (.ref a) H R := .inr (.inl ⟨a, rfl, ⟨xs, hS⟩, h⟩)
theorem go_iS {z : Str} {R : It → Hp → Prop} (h : R (Its z) H) : IX K (.str z) H R := .inr (.inr ⟨z, rfl, h⟩)
def LcW (J : It) (g : TG) (tt : TT) (te : TE) (vs : List Nat) (σ : St) (H1 : Hp) (Q : VK) : Prop := ∀ D, H1 D = none → ∃ W : Nat → Nat → Hp → Prop, (∃ m, W 0 m (upd H1 D (.lst []))) ∧ ∀ i m H, W i m H →
  (J.stop i H ∧ Q (.ref D) H) ∨ (J.go i H ∧ ∃ Nx : Hp → Prop, (∀ H', Nx H' → ∃ m', m' < m ∧ W (i + 1) m' H') ∧ ∀ x H', J.yld i H x H' → g x (wipe σ vs) H' fun σ2 H2 => wipe σ2 vs = wipe σ vs ∧ tt σ2 H2 fun b H3 =>
    if b = true then te σ2 H3 fun y H4 => ∃ acc, H4 D = some (.lst acc) ∧ acc.length < sizeLine ∧ Nx (upd H4 D (.lst (acc ++ [y]))) else Nx H3)
theorem go_lc {wi : TI} {g : TG} {tt : TT} {te : TE} {vs : List Nat} (h : wi σ H fun J H1 => LcW J g tt te vs σ H1 Q) : tLc wi g tt te vs σ H Q := h
/-- the same relation at other targets -/
structure LcS (g : TG) (tt : TT) (te : TE) (vs : List Nat) (σ : St) (x : V) (H : Hp) (yes : V → Hp → Prop) (no : Hp → Prop) : Prop where
  run : g x (wipe σ vs) H fun σ2 H2 => wipe σ2 vs = wipe σ vs ∧ tt σ2 H2 fun b H3 => if b = true then te σ2 H3 yes else no H3
/-- GENERAL: over a list; R i ys H' what holds of the items made so far; D is the new list's own place -/
theorem LcW.list {a : Addr} {xs : List V} {H1 : Hp} {g : TG} {tt : TT} {te : TE} {vs : List Nat} (R : Addr → Nat → List V → Hp → Prop) (hz : xs.length ≤ 100000) (hS : SqL K H1 a xs) (h0 : ∀ D, H1 D = none → R D 0 [] (upd H1 D (.lst [])))
    (hs : ∀ D i x ys H', H1 D = none → xs[i]? = some x → ys.length ≤ i → R D i ys H' → Same H1 H' → H' D = some (.lst ys) → ∀ (yes : V → Hp → Prop) (no : Hp → Prop),
      (∀ y H'', Same H' H'' → R D (i + 1) (ys ++ [y]) (upd H'' D (.lst (ys ++ [y]))) → yes y H'') → (∀ H'', Same H' H'' → R D (i + 1) ys H'' → no H'') →
      g x (wipe σ vs) H' fun σ2 H2 => wipe σ2 vs = wipe σ vs ∧ tt σ2 H2 fun b H3 => if b = true then te σ2 H3 yes else no H3)
    (hd : ∀ D ys H', H1 D = none → Same H1 H' → H' D = some (.lst ys) → ys.length ≤ xs.length → R D xs.length ys H' → Q (.ref D) H') : LcW (Itl K a) g tt te vs σ H1 Q := by
  intro D hD
  refine lc_list (xs := xs) (fun i H' => Same H1 H' ∧ ∃ ys, H' D = some (.lst ys) ∧ ys.length ≤ i ∧ R D i ys H') ⟨same_new hD, [], upd_same, Nat.le_refl _, h0 D hD⟩ (fun i H' _ ⟨s, _⟩ => s.seq hS) (fun i x H' hi ⟨s, ys, e, hl, r⟩ => ?_) fun H' ⟨s, ys, e, hl, r⟩ => hd D ys H' hD s e hl r
  have hil : i < xs.length := (List.getElem?_eq_some_iff.mp hi).1
  refine hs D i x ys H' hD hi hl r s e _ _ (fun y H'' s2 r2 => ⟨ys, s2 _ _ e, ?_, same_mut (s.trans s2) hD, ys ++ [y], upd_same, by rw [List.length_append]; show ys.length + 1 ≤ _; omega, r2⟩) fun H'' s2 r2 => ⟨s.trans s2, ys, s2 _ _ e, by omega, r2⟩
  exact Nat.lt_of_le_of_lt hl (Nat.lt_of_lt_of_le hil (Nat.le_trans hz (by decide)))
theorem LcW.tup {a : Addr} {xs : List V} {H1 : Hp} {g : TG} {tt : TT} {te : TE} {vs : List Nat} (R : Addr → Nat → List V → Hp → Prop) (hz : xs.length ≤ 100000) (hS : SqT K H1 a xs) (h0 : ∀ D, H1 D = none → R D 0 [] (upd H1 D (.lst [])))
    (hs : ∀ D i x ys H', H1 D = none → xs[i]? = some x → ys.length ≤ i → R D i ys H' → Same H1 H' → H' D = some (.lst ys) → ∀ (yes : V → Hp → Prop) (no : Hp → Prop),
      (∀ y H'', Same H' H'' → R D (i + 1) (ys ++ [y]) (upd H'' D (.lst (ys ++ [y]))) → yes y H'') → (∀ H'', Same H' H'' → R D (i + 1) ys H'' → no H'') →
      g x (wipe σ vs) H' fun σ2 H2 => wipe σ2 vs = wipe σ vs ∧ tt σ2 H2 fun b H3 => if b = true then te σ2 H3 yes else no H3)
    (hd : ∀ D ys H', H1 D = none → Same H1 H' → H' D = some (.lst ys) → ys.length ≤ xs.length → R D xs.length ys H' → Q (.ref D) H') : LcW (Itt K a) g tt te vs σ H1 Q := by
  intro D hD
  have seqT : ∀ {H' : Hp}, Same H1 H' → SqT K H' a xs := fun {H'} s => by
    rcases hS with (h | ⟨o, h⟩) | h
    · exact .inl (.inl (s _ _ h))
    · exact .inl (.inr ⟨o, s _ _ h⟩)
    · exact .inr h
  refine lc_tup (xs := xs) (fun i H' => Same H1 H' ∧ ∃ ys, H' D = some (.lst ys) ∧ ys.length ≤ i ∧ R D i ys H') ⟨same_new hD, [], upd_same, Nat.le_refl _, h0 D hD⟩ (fun i H' _ ⟨s, _⟩ => seqT s) (fun i x H' hi ⟨s, ys, e, hl, r⟩ => ?_) fun H' ⟨s, ys, e, hl, r⟩ => hd D ys H' hD s e hl r
  have hil : i < xs.length := (List.getElem?_eq_some_iff.mp hi).1
  refine hs D i x ys H' hD hi hl r s e _ _ (fun y H'' s2 r2 => ⟨ys, s2 _ _ e, ?_, same_mut (s.trans s2) hD, ys ++ [y], upd_same, by rw [List.length_append]; show ys.length + 1 ≤ _; omega, r2⟩) fun H'' s2 r2 => ⟨s.trans s2, ys, s2 _ _ e, by omega, r2⟩
  exact Nat.lt_of_le_of_lt hl (Nat.lt_of_lt_of_le hil (Nat.le_trans hz (by decide)))
/-- elements are plain values, no test -/
theorem LcW.listV {a : Addr} {xs : List V} {H1 : Hp} {g : TG} {te : TE} {vs : List Nat} (out : Nat → V) (hz : xs.length ≤ 100000) (hS : SqL K H1 a xs)
    (hs : ∀ i x H', xs[i]? = some x → Same H1 H' → ∀ Q' : VK, (∀ H'', Same H' H'' → Q' (out i) H'') → g x (wipe σ vs) H' fun σ2 H2 => wipe σ2 vs = wipe σ vs ∧ te σ2 H2 Q')
    (mono : ∀ (x : V) (σ : St) (H : Hp) (Q Q' : St → Hp → Prop), (∀ σ H, Q σ H → Q' σ H) → g x σ H Q → g x σ H Q')
    (hd : ∀ D H', H1 D = none → Same H1 H' → H' D = some (.lst ((List.range xs.length).map out)) → Q (.ref D) H') : LcW (Itl K a) g tYes te vs σ H1 Q := by
  refine LcW.list (fun D i ys H' => ys = (List.range i).map out) hz hS (fun _ _ => rfl) (fun D i x ys H' hD hi hl r s e yes no hy hn => ?_) fun D ys H' hD s e _ r => hd D H' hD s (by rw [e, r])
  refine mono x _ _ _ _ (fun σ2 H2 q => q) (hs i x H' hi s yes fun H'' s2 => hy _ _ s2 ?_)
  rw [r, List.range_succ, List.map_append]
  rfl
theorem gname_mono {i : Nat} (x : V) (σ : St) (H : Hp) (Q Q' : St → Hp → Prop) (h : ∀ σ H, Q σ H → Q' σ H) (q : gName i x σ H Q) : gName i x σ H Q' := h _ _ q
theorem go_all {l : Addr} {bs : List Bool} (hS : SqL K H l (bs.map V.bl)) (h : Q (.bl (bs.all id)) H) : rAll K [.ref l] H Q := ⟨l, bs, rfl, hS, h⟩
theorem go_any {l : Addr} {bs : List Bool} (hS : SqL K H l (bs.map V.bl)) (h : Q (.bl (bs.any id)) H) : rAny K [.ref l] H Q := ⟨l, bs, rfl, hS, h⟩
theorem go_sum {l : Addr} {ns : List Int} (hS : SqL K H l (ns.map V.int)) (h : Q (.int ns.sum) H) : rSum K [.ref l] H Q := ⟨l, ns, rfl, hS, h⟩
theorem go_yes {QB : Bool → Hp → Prop} (h : QB true H) : tYes σ H QB := h
end
theorem range_map_const {n : Nat} {v : V} : (List.range n).map (fun _ => v) = List.replicate n v := by
  induction n with
  | zero => rfl
  | succ n ih => rw [List.range_succ, List.map_append, ih, List.replicate_succ'] <;> rfl
theorem all_true {n : Nat} : (List.replicate n true).all id = true := by simp
theorem szl {n : Nat} (h : n ≤ 100000) : n ≤ sizeLine := Nat.le_trans h (by decide)
theorem bl_ok {b : Bool} {Q : VK} {H : Hp} (e : b = true) (h : Q (.bl true) H) : Q (.bl b) H := by rw [e]; exact h
end L2.A
namespace L2.A
open PySem PySem.Spec PyProof.Rows
theorem ret_V {v v' : V} {Q : VK} {H : Hp} (e : v' = v) (h : Q v' H) : Q v H := by rw [← e]; exact h
theorem dec_int {i j : Int} : decide (V.int i = V.int j) = decide (i = j) := by simp
theorem dec_str {i j : Str} : decide (V.str i = V.str j) = decide (i = j) := by simp
theorem dec_bl {i j : Bool} : decide (V.bl i = V.bl j) = decide (i = j) := by simp
/-- the head and the items of a list of whole numbers -/
theorem int_at {ns : List Int} {i : Nat} {x : V} (h : (ns.map V.int)[i]? = some x) : ∃ z, x = V.int z ∧ ns[i]? = some z := by
  rw [List.getElem?_map] at h
  cases e : ns[i]? with
  | none => rw [e] at h; cases h
  | some z => rw [e] at h; exact ⟨z, (Option.some.inj h).symm, rfl⟩
theorem iteS_bl {b : Bool} {Q : VK} {H : Hp} {v1 v2 : V} (h1 : b = true → Q v1 H) (h2 : b = false → Q v2 H) : if b = true then Q v1 H else Q v2 H := if2 h1 h2
end L2.A
namespace L2.A
open PySem PySem.Spec PyProof.Rows
def RN1 (vs : List V) (H1 : Hp) (R : It → Hp → Prop) : Prop := ∃ j : Int, vs = [.int j] ∧ -(2 ^ 62) ≤ j ∧ j < 2 ^ 62 ∧ R (Itr 0 j.toNat) H1
def RN2 (vs : List V) (H1 : Hp) (R : It → Hp → Prop) : Prop := ∃ i j : Int, vs = [.int i, .int j] ∧ (-(2 ^ 62) ≤ i ∧ i < 2 ^ 62 ∧ -(2 ^ 62) ≤ j ∧ j < 2 ^ 62) ∧ R (Itr i (j - i).toNat) H1
theorem go_rng1 {ta : TA} {σ : St} {H : Hp} {R : It → Hp → Prop} (h : ta σ H fun vs H1 => RN1 vs H1 R) : iRng1 ta σ H R := h
theorem go_rng2 {ta : TA} {σ : St} {H : Hp} {R : It → Hp → Prop} (h : ta σ H fun vs H1 => RN2 vs H1 R) : iRng2 ta σ H R := h
theorem go_rn1 {j : Int} {H : Hp} {R : It → Hp → Prop} (h1 : -100000 ≤ j ∧ j ≤ 100000) (h : R (Itr 0 j.toNat) H) : RN1 [.int j] H R := ⟨j, rfl, by omega, by omega, h⟩
theorem go_rn2 {i j : Int} {H : Hp} {R : It → Hp → Prop} (h1 : -100000 ≤ i ∧ i ≤ 100000 ∧ -100000 ≤ j ∧ j ≤ 100000) (h : R (Itr i (j - i).toNat) H) : RN2 [.int i, .int j] H R := ⟨i, j, rfl, ⟨by omega, by omega, by omega, by omega⟩, h⟩
/-- an item of a written list at a drawn place -/
theorem at_some {α : Type} {xs : List α} {r : Int} (h0 : 0 ≤ r) (h1 : r < xs.length) : ∃ v, atI xs r = some v ∧ v ∈ xs := by
  obtain ⟨j, rfl⟩ : ∃ j : Nat, r = (j : Int) := ⟨r.toNat, by omega⟩
  have hj : j < xs.length := by omega
  exact ⟨xs[j], atI_nat (List.getElem?_eq_getElem hj), List.getElem_mem hj⟩
theorem menuS {L : List Str} {r : Int} (h0 : 0 ≤ r) (h1 : r < L.length) : ∃ k, atI (L.map V.str) r = some (.str k) ∧ k ∈ L := by
  obtain ⟨v, e, m⟩ := at_some (xs := L.map V.str) h0 (by rw [List.length_map]; exact h1)
  obtain ⟨k, hk, rfl⟩ := List.mem_map.mp m
  exact ⟨k, e, hk⟩
theorem menuI {L : List Int} {r : Int} (h0 : 0 ≤ r) (h1 : r < L.length) : ∃ k, atI (L.map V.int) r = some (.int k) ∧ k ∈ L := by
  obtain ⟨v, e, m⟩ := at_some (xs := L.map V.int) h0 (by rw [List.length_map]; exact h1)
  obtain ⟨k, hk, rfl⟩ := List.mem_map.mp m
  exact ⟨k, e, hk⟩
/-- a sign of a written text at a drawn place -/
theorem sign_some {z : Str} {r : Int} (h0 : 0 ≤ r) (h1 : r < z.cps.toList.length) : ∃ c, atI z.cps.toList r = some c ∧ c ∈ z.cps.toList := at_some h0 h1
theorem len_app (a b : Str) : (a ++ b).length = a.length + b.length := by
  have h := congrArg List.length (TL.tl_append a b)
  rw [List.length_append, ← TL.len_tl, ← TL.len_tl, ← TL.len_tl] at h
  exact h
theorem len_one {c : Nat} : (⟨#[c]⟩ : Str).length = 1 := rfl
end L2.A

namespace L2.A
open PySem PySem.Spec PyProof.Rows
section
variable {σ : St} {H : Hp} {Q : VK} {QB : Bool → Hp → Prop} {tt tu : TT} {ta tb : TE} {c1 c2 : Bool} {v1 v2 : V}
/-! ### and, or whose parts lay nothing: one value, no two ways -/
theorem go_andP (h1 : ∀ QB' : Bool → Hp → Prop, QB' c1 H → tt σ H QB') (h2 : ∀ QB' : Bool → Hp → Prop, QB' c2 H → tu σ H QB') (h : QB (c1 && c2) H) : tAnd tt tu σ H QB := h1 _ (by
  cases c1 with
  | true => exact iteT (h2 _ h)
  | false => exact iteF h)
theorem go_orP (h1 : ∀ QB' : Bool → Hp → Prop, QB' c1 H → tt σ H QB') (h2 : ∀ QB' : Bool → Hp → Prop, QB' c2 H → tu σ H QB') (h : QB (c1 || c2) H) : tOr tt tu σ H QB := h1 _ (by
  cases c1 with
  | true => exact iteT h
  | false => exact iteF (h2 _ h))
theorem go_andVP (h1 : ∀ Q' : VK, Q' (.bl c1) H → ta σ H Q') (h2 : ∀ Q' : VK, Q' (.bl c2) H → tb σ H Q') (h : Q (.bl (c1 && c2)) H) : tAndV ta tb σ H Q := h1 _ ⟨c1, rfl, by
  cases c1 with
  | true => exact iteT (h2 _ h)
  | false => exact iteF h⟩
theorem go_orVP (h1 : ∀ Q' : VK, Q' (.bl c1) H → ta σ H Q') (h2 : ∀ Q' : VK, Q' (.bl c2) H → tb σ H Q') (h : Q (.bl (c1 || c2)) H) : tOrV ta tb σ H Q := h1 _ ⟨c1, rfl, by
  cases c1 with
  | true => exact iteT h
  | false => exact iteF (h2 _ h)⟩
theorem go_ifxP (h1 : ∀ QB' : Bool → Hp → Prop, QB' c1 H → tt σ H QB') (h2 : ∀ Q' : VK, Q' v1 H → ta σ H Q') (h3 : ∀ Q' : VK, Q' v2 H → tb σ H Q') (h : Q (if c1 = true then v1 else v2) H) : tIf tt ta tb σ H Q := h1 _ (by
  cases c1 with
  | true => exact iteT (h2 _ h)
  | false => exact iteF (h3 _ h))
theorem and_join (h2 : ∀ QB' : Bool → Hp → Prop, QB' c2 H → tu σ H QB') (h : QB (c1 && c2) H) : if c1 = true then tu σ H QB else QB false H := by
  cases c1 with
  | true => exact iteT (h2 _ h)
  | false => exact iteF h
theorem or_join (h2 : ∀ QB' : Bool → Hp → Prop, QB' c2 H → tu σ H QB') (h : QB (c1 || c2) H) : if c1 = true then QB true H else tu σ H QB := by
  cases c1 with
  | true => exact iteT h
  | false => exact iteF (h2 _ h)
theorem andV_join (h2 : ∀ Q' : VK, Q' (.bl c2) H → tb σ H Q') (h : Q (.bl (c1 && c2)) H) : if c1 = true then tb σ H Q else Q (.bl false) H := by
  cases c1 with
  | true => exact iteT (h2 _ h)
  | false => exact iteF h
theorem orV_join (h2 : ∀ Q' : VK, Q' (.bl c2) H → tb σ H Q') (h : Q (.bl (c1 || c2)) H) : if c1 = true then Q (.bl true) H else tb σ H Q := by
  cases c1 with
  | true => exact iteT h
  | false => exact iteF (h2 _ h)
/-- the same where the parts may lay new objects -/
theorem go_andS (h1 : ∀ QB' : Bool → Hp → Prop, (∀ H', Same H H' → QB' c1 H') → tt σ H QB') (h2 : ∀ H1, Same H H1 → ∀ QB' : Bool → Hp → Prop, (∀ H', Same H1 H' → QB' c2 H') → tu σ H1 QB') (h : ∀ H', Same H H' → QB (c1 && c2) H') : tAnd tt tu σ H QB := h1 _ fun H1 s1 => by
  cases c1 with
  | true => exact iteT (h2 _ s1 _ fun H2 s2 => h _ (s1.trans s2))
  | false => exact iteF (h _ s1)
theorem go_orS (h1 : ∀ QB' : Bool → Hp → Prop, (∀ H', Same H H' → QB' c1 H') → tt σ H QB') (h2 : ∀ H1, Same H H1 → ∀ QB' : Bool → Hp → Prop, (∀ H', Same H1 H' → QB' c2 H') → tu σ H1 QB') (h : ∀ H', Same H H' → QB (c1 || c2) H') : tOr tt tu σ H QB := h1 _ fun H1 s1 => by
  cases c1 with
  | true => exact iteT (h _ s1)
  | false => exact iteF (h2 _ s1 _ fun H2 s2 => h _ (s1.trans s2))
end
end L2.A

namespace L2.A
open PySem PySem.Spec PyProof.Rows
/-- a statement, then the rest, with a word between them: what follows is shown once, from Mid -/
def tCut (t u : TS) : TS := fun D σ H => ∃ Mid : St → Hp → Prop, t { D with nx := Mid } σ H ∧ ∀ σ' H', Mid σ' H' → u D σ' H'
theorem pss_cut {X : Cx} {st : Stmt} {rest : List Stmt} {t u : TS} (h1 : PS X st t) (h2 : PSs X rest u) : PSs X (st :: rest) (tCut t u) := by
  refine ⟨fun pins s σ H D I h => ?_⟩
  obtain ⟨Mid, hm, hu⟩ := h
  refine wpAny_execs_cons (thn (h1.run pins s σ H { D with nx := Mid } I hm) fun f s1 q => ?_)
  cases f with
  | next =>
    obtain ⟨σ', H', I', q⟩ := q
    exact h2.run pins s1 σ' H' D I' (hu σ' H' q)
  | ret v => exact q
  | brk => exact q
  | cont => exact q
theorem go_cut {t u : TS} {D : Ends} {σ : St} {H : Hp} (Mid : St → Hp → Prop) (h1 : t { D with nx := Mid } σ H) (h2 : ∀ σ' H', Mid σ' H' → u D σ' H') : tCut t u D σ H := ⟨Mid, h1, h2⟩
end L2.A

namespace L2.A
open PySem PySem.Spec PyProof.Rows
theorem seqT_same {K : PySem.W.Frag} {H H' : Hp} {p : Addr} {xs : List V} (h : SqT K H p xs) (s : Same H H') : SqT K H' p xs := by
  rcases h with (h | ⟨o, h⟩) | h
  · exact .inl (.inl (s _ _ h))
  · exact .inl (.inr ⟨o, s _ _ h⟩)
  · exact .inr h
theorem seqL_same {K : PySem.W.Frag} {H H' : Hp} {p : Addr} {xs : List V} (h : SqL K H p xs) (s : Same H H') : SqL K H' p xs := s.seq h
/-- == of scalars in short -/
abbrev eI (a b : Int) : Bool := decide (V.int a = V.int b)
abbrev eS (a b : Str) : Bool := decide (V.str a = V.str b)
theorem eI_eq (a b : Int) : eI a b = decide (a = b) := by simp
theorem eS_eq (a b : Str) : eS a b = decide (a = b) := by simp
end L2.A

namespace L2.A
open PySem PySem.Spec PyProof.Rows
section
variable {σ : St} {H : Hp} {Q : VK}
/-! ### displays of dicts -/
def kvOf (p : V × V) : Key × V := (match p.1 with | .str x => Sum.inr x | .int i => Sum.inl i | _ => Sum.inl 0, p.2)
def DispK (p : Addr) (ps : List (V × V)) (H2 : Hp) (Q : VK) : Prop := H2 p = some (.dK []) ∧ ∃ kvs : List (Key × V), ps = kvs.map (fun kv => (kV kv.1, kv.2)) ∧ kvs.length ≤ 15 ∧ Q (.ref p) (upd H2 p (.dK (mergeK [] kvs)))
def DispN (trs : List (TE × TE)) (σ : St) (H : Hp) (Q : VK) : Prop := ∀ p, H p = none → tPairs trs σ (upd H p (.dK [])) fun ps H2 => DispK p ps H2 Q
theorem go_disp {trs : List (TE × TE)} (h : DispN trs σ H Q) : tDisp trs σ H Q := h
theorem go_pairs {tk tv : TE} {r : List (TE × TE)} {R : List (V × V) → Hp → Prop} (h : tk σ H fun k H1 => tv σ H1 fun v H2 => tPairs r σ H2 fun ps H3 => R ((k, v) :: ps) H3) : tPairs ((tk, tv) :: r) σ H R := h
theorem go_pairs0 {R : List (V × V) → Hp → Prop} (h : R [] H) : tPairs [] σ H R := h
theorem go_dispK {p : Addr} {ps : List (V × V)} (h0 : H p = some (.dK [])) (e : ps = (ps.map kvOf).map (fun kv => (kV kv.1, kv.2))) (hl : Nat.ble (ps.map kvOf).length 15 = true) (h : Q (.ref p) (upd H p (.dK (mergeK [] (ps.map kvOf))))) : DispK p ps H Q :=
  ⟨h0, _, e, Nat.le_of_ble_eq_true hl, h⟩
end
end L2.A

namespace L2.A
open PySem PySem.Spec PyProof.Rows
theorem upd_free {H : Hp} {a b : Addr} {o : HO} (h : upd H a o b = none) : H b = none := by
  by_cases e : b = a
  · subst e; rw [upd_same] at h; cases h
  · rw [upd_ne e] at h; exact h
end L2.A

namespace L2.A
open PySem PySem.Spec PyProof.Rows
/-- a statement that lays nothing: the slots behind it told -/
theorem go_cutP {t u : TS} {D : Ends} {σ : St} {H : Hp} (σ1 : St) (h1 : t { D with nx := fun σ' H' => σ' = σ1 ∧ H' = H } σ H) (h2 : u D σ1 H) : tCut t u D σ H := ⟨_, h1, fun _ _ ⟨e1, e2⟩ => by rw [e1, e2]; exact h2⟩
/-- .. that may lay new objects -/
theorem go_cutS {t u : TS} {D : Ends} {σ : St} {H : Hp} (σ1 : St) (h1 : t { D with nx := fun σ' H' => σ' = σ1 ∧ Same H H' } σ H) (h2 : ∀ H', Same H H' → u D σ1 H') : tCut t u D σ H := ⟨_, h1, fun _ _ ⟨e1, e2⟩ => by rw [e1]; exact h2 _ e2⟩
end L2.A

namespace L2.A
open PySem PySem.Spec PyProof.Rows
section
variable {X : Cx} {K : PySem.W.Frag} {σ : St} {H : Hp} {Q : VK}
/-! ### slices -/
def PartI (x : V) (H : Hp) (R : Option Int → Hp → Prop) : Prop := ∃ i, x = .int i ∧ R (some i) H
theorem go_sl {r : V → Option Int → Option Int → Hp → VK → Prop} {te : TE} {tl th : TO} (h : te σ H fun x H1 => tl σ H1 fun l H2 => th σ H2 fun u H3 => r x l u H3 Q) : tSl r te tl th σ H Q := h
theorem go_nopart {R : Option Int → Hp → Prop} (h : R none H) : tNoPart σ H R := h
theorem go_part {t : TE} {R : Option Int → Hp → Prop} (h : t σ H fun x H1 => PartI x H1 R) : tPart t σ H R := h
theorem go_partI {i : Int} {R : Option Int → Hp → Prop} (h : R (some i) H) : PartI (.int i) H R := ⟨i, rfl, h⟩
theorem go_slT {p : Addr} {xs ys : List V} {lo hi : Option Int} (hp : SqT K H p xs) (e : cutV xs lo hi = ys) (n : (Nat.beq (HT.sIx xs.length 0 lo) 0 && Nat.beq (HT.sIx xs.length xs.length hi) xs.length) = false) (h : NewO (.tup ys) H Q) : rSlX K (.ref p) lo hi H Q :=
  .inr (.inl ⟨p, xs, rfl, hp, fun ⟨z1, z2⟩ => by rw [z1, z2] at n; simp at n, by rw [e]; exact h⟩)
theorem go_slL {p : Addr} {xs ys : List V} {lo hi : Option Int} (hp : SqL K H p xs) (e : cutV xs lo hi = ys) (h : NewO (.lst ys) H Q) : rSlX K (.ref p) lo hi H Q := .inl ⟨p, xs, rfl, hp, by rw [e]; exact h⟩
theorem go_slS {z : Str} {lo hi : Option Int} (hz : z.length ≤ sizeLine) (h : Q (.str (cutS z lo hi)) H) : rSlX K (.str z) lo hi H Q := .inr (.inr ⟨z, rfl, hz, h⟩)
/-! ### min, max of three -/
def rMn3 : List V → Hp → VK → Prop := fun xs H Q => ∃ i j k : Int, xs = [.int i, .int j, .int k] ∧ Q (.int (min i (min j k))) H
def rMx3 : List V → Hp → VK → Prop := fun xs H Q => ∃ i j k : Int, xs = [.int i, .int j, .int k] ∧ Q (.int (max i (max j k))) H
theorem vals3 {x y z : V} {us : List Value} (r : Vals [x, y, z] us) : ∃ u v w', us = [u, v, w'] ∧ RelV x u ∧ RelV y v ∧ RelV z w' := by
  cases r with
  | cons r1 r2 =>
    obtain ⟨u, v, rfl, a, b⟩ := vals2 r2
    exact ⟨_, _, _, rfl, r1, a, b⟩
theorem call_mn3 (hc : X.calm = true) : CallR X (.builtin "min") rMn3 := by
  intro pins s σ H xs us Q I r h
  obtain ⟨i, j, k, rfl, q⟩ := h
  obtain ⟨u, v, w', rfl, ⟨t, rfl⟩, ⟨t', rfl⟩, ⟨t2, rfl⟩⟩ := vals3 r
  refine min_three_ints (I.ok.hd hc) fun h' tk hk => ⟨_, H, I.kept hk, ?_, q⟩
  by_cases h1 : j < i
  · by_cases h2 : k < j
    · rw [if_pos h1, if_pos h2]; exact ⟨_, by rw [show min i (min j k) = k by omega]⟩
    · rw [if_pos h1, if_neg h2]; exact ⟨_, by rw [show min i (min j k) = j by omega]⟩
  · by_cases h2 : k < i
    · rw [if_neg h1, if_pos h2]; exact ⟨_, by rw [show min i (min j k) = k by omega]⟩
    · rw [if_neg h1, if_neg h2]; exact ⟨_, by rw [show min i (min j k) = i by omega]⟩
theorem call_mx3 (hc : X.calm = true) : CallR X (.builtin "max") rMx3 := by
  intro pins s σ H xs us Q I r h
  obtain ⟨i, j, k, rfl, q⟩ := h
  obtain ⟨u, v, w', rfl, ⟨t, rfl⟩, ⟨t', rfl⟩, ⟨t2, rfl⟩⟩ := vals3 r
  refine max_three_ints (I.ok.hd hc) fun h' tk hk => ⟨_, H, I.kept hk, ?_, q⟩
  by_cases h1 : j > i
  · by_cases h2 : k > j
    · rw [if_pos h1, if_pos h2]; exact ⟨_, by rw [show max i (max j k) = k by omega]⟩
    · rw [if_pos h1, if_neg h2]; exact ⟨_, by rw [show max i (max j k) = j by omega]⟩
  · by_cases h2 : k > i
    · rw [if_neg h1, if_pos h2]; exact ⟨_, by rw [show max i (max j k) = k by omega]⟩
    · rw [if_neg h1, if_neg h2]; exact ⟨_, by rw [show max i (max j k) = i by omega]⟩
theorem go_min3 {a b c : Int} (h : Q (.int (min a (min b c))) H) : rMn3 [V.int a, V.int b, V.int c] H Q := ⟨a, b, c, rfl, h⟩
theorem go_max3 {a b c : Int} (h : Q (.int (max a (max b c))) H) : rMx3 [V.int a, V.int b, V.int c] H Q := ⟨a, b, c, rfl, h⟩
end
end L2.A

namespace L2.A
open PySem PySem.Spec PyProof.Rows
theorem ge2 {H H' : Hp} {a : Addr} {o : HO} (h : H a = some o) (s : Same H H') : H' a = some o := s a o h
end L2.A


namespace L2.A
open PySem PySem.Spec PyProof.Rows
/-! ### == of data at any depth -/
mutual
theorem Dp.same {K : PySem.W.Frag} {H H' : Hp} (s : Same H H') : ∀ (d : PyData) (v : V), Dp K H v d → Dp K H' v d
  | .none, _, h => by cases h; exact .non
  | .bool b, _, h => by cases h; exact .bl b
  | .int i, _, h => by cases h; exact .int i
  | .str x, _, h => by cases h; exact .str x
  | .list ds, _, h => by
    cases h with
    | lst hs ha => exact .lst (s.seq hs) (Dp.sameAll s ds _ ha)
  | .tuple ds, _, h => by
    cases h with
    | tup hs ha => exact .tup (seqT_same hs s) (Dp.sameAll s ds _ ha)
  | .dict _, _, h => by cases h
theorem Dp.sameAll {K : PySem.W.Frag} {H H' : Hp} (s : Same H H') : ∀ (ds : List PyData) (vs : List V), DpAll K H vs ds → DpAll K H' vs ds
  | [], _, h => by cases h; exact .nil
  | d :: ds, _, h => by
    cases h with
    | cons h1 h2 => exact .cons (Dp.same s d _ h1) (Dp.sameAll s ds _ h2)
end
/-- the datum of a scalar -/
def dV : V → PyData
  | .bl b => .bool b
  | .int i => .int i
  | .str x => .str x
  | _ => .none
theorem Dp.flat {K : PySem.W.Frag} {H : Hp} : ∀ {v : V}, flatV v = true → Dp K H v (dV v)
  | .non, _ => .non
  | .bl b, _ => .bl b
  | .int i, _ => .int i
  | .str x, _ => .str x
theorem DpAll.flat {K : PySem.W.Frag} {H : Hp} : ∀ {vs : List V}, vs.all flatV = true → DpAll K H vs (vs.map dV)
  | [], _ => .nil
  | v :: vs, h => by
    have h' : flatV v = true ∧ vs.all flatV = true := by simpa using h
    exact .cons (Dp.flat h'.1) (DpAll.flat h'.2)
/-- a scalar whose text may be laid -/
def okV : V → Bool
  | .non | .bl _ | .int _ => true
  | .str x => PySem.PyData.strOk x
  | _ => false
theorem okV_flat {v : V} (h : okV v = true) : flatV v = true := by cases v <;> simp_all [okV, flatV]
theorem okV_all {vs : List V} (h : vs.all okV = true) : vs.all flatV = true := by
  rw [List.all_eq_true] at h ⊢
  exact fun v m => okV_flat (h v m)
theorem lay_flat {v : V} (h : okV v = true) : (dV v).canLay0 = true := by cases v <;> simp_all [okV, dV, PyData.canLay0]
theorem layAll_flat : ∀ {vs : List V}, vs.all okV = true → PyData.canLayAll0 (vs.map dV) = true
  | [], _ => rfl
  | v :: vs, h => by
    have h' : okV v = true ∧ vs.all okV = true := by simpa using h
    simp only [List.map_cons, PyData.canLayAll0, lay_flat h'.1, layAll_flat h'.2, Bool.and_self]
theorem depth_flat {v : V} : (dV v).depth = 0 := by cases v <;> simp [dV, PyData.depth]
theorem depthAll_flat : ∀ {vs : List V}, PyData.depthAll (vs.map dV) = 0
  | [] => rfl
  | v :: vs => by simp only [List.map_cons, PyData.depthAll, depth_flat, depthAll_flat]; rfl
theorem shaped_tup {vs : List V} (h : vs.all okV = true) : SeqAt.shaped (.tuple (vs.map dV)) = true := by
  simp only [SeqAt.shaped, PyData.canLay0, layAll_flat h, PyData.depth, depthAll_flat]; rfl
theorem shaped_lst {vs : List V} (h : vs.all okV = true) : SeqAt.shaped (.list (vs.map dV)) = true := by
  simp only [SeqAt.shaped, PyData.canLay0, layAll_flat h, PyData.depth, depthAll_flat]; rfl
/-- == of rows of scalars -/
def eqVs (xs ys : List V) : Bool := PyData.eqvAll (xs.map dV) (ys.map dV)
theorem eqVs_refl {vs : List V} (h : vs.all okV = true) : eqVs vs vs = true := SeqAt.eqvAll_refl _ (layAll_flat h)
section
variable {K : PySem.W.Frag} {H : Hp} {Q : VK}
theorem go_eqT {p q : Addr} {xs ys : List V} (hp : SqT K H p xs) (hq : SqT K H q ys) (ox : xs.all okV = true) (oy : ys.all okV = true) (h : Q (.bl (eqVs xs ys)) H) : rEqX K (.ref p) (.ref q) H Q :=
  .inr ⟨_, _, .tup hp (DpAll.flat (okV_all ox)), .tup hq (DpAll.flat (okV_all oy)), shaped_tup ox, shaped_tup oy, by rw [PyData.eqv]; exact h⟩
theorem go_neT {p q : Addr} {xs ys : List V} (hp : SqT K H p xs) (hq : SqT K H q ys) (ox : xs.all okV = true) (oy : ys.all okV = true) (h : Q (.bl (!eqVs xs ys)) H) : rNeX K (.ref p) (.ref q) H Q :=
  .inr ⟨_, _, .tup hp (DpAll.flat (okV_all ox)), .tup hq (DpAll.flat (okV_all oy)), shaped_tup ox, shaped_tup oy, by rw [PyData.eqv]; exact h⟩
theorem go_eqL {p q : Addr} {xs ys : List V} (hp : SqL K H p xs) (hq : SqL K H q ys) (ox : xs.all okV = true) (oy : ys.all okV = true) (h : Q (.bl (eqVs xs ys)) H) : rEqX K (.ref p) (.ref q) H Q :=
  .inr ⟨_, _, .lst hp (DpAll.flat (okV_all ox)), .lst hq (DpAll.flat (okV_all oy)), shaped_lst ox, shaped_lst oy, by rw [PyData.eqv]; exact h⟩
theorem go_neL {p q : Addr} {xs ys : List V} (hp : SqL K H p xs) (hq : SqL K H q ys) (ox : xs.all okV = true) (oy : ys.all okV = true) (h : Q (.bl (!eqVs xs ys)) H) : rNeX K (.ref p) (.ref q) H Q :=
  .inr ⟨_, _, .lst hp (DpAll.flat (okV_all ox)), .lst hq (DpAll.flat (okV_all oy)), shaped_lst ox, shaped_lst oy, by rw [PyData.eqv]; exact h⟩
end
end L2.A


namespace L2.A
open PySem PySem.Spec PyProof.Rows
section
variable {X : Cx} {K : PySem.W.Frag}
/-! ### the same rules with the fragment named (within a comprehension's own context) -/
theorem op_addK (hK : X.K = K) : OpR X (binaryOp .Add) (rAddX K) := hK ▸ op_addX
theorem op_eqK (hK : X.K = K) (hu : X.A.units + 64 < cLine) : OpR X (compareOp .Eq) (rEqX K) := hK ▸ op_eqX hu
theorem op_neK (hK : X.K = K) (hu : X.A.units + 64 < cLine) : OpR X (compareOp .NotEq) (rNeX K) := hK ▸ op_neX hu
theorem op_inK (hK : X.K = K) (hu : X.A.units + 1 < cLine) : OpR X (compareOp .In) (rInX K) := hK ▸ op_inX hu
theorem op_notInK (hK : X.K = K) (hu : X.A.units + 1 < cLine) : OpR X (compareOp .NotIn) (rNotInX K) := hK ▸ op_notInX hu
theorem op_isK' (hK : X.K = K) : OpR X (compareOp .Is) (rIsX K) := hK ▸ op_isX
theorem op_isNotK' (hK : X.K = K) : OpR X (compareOp .IsNot) (rIsNotX K) := hK ▸ op_isNotX
theorem ix_K (hK : X.K = K) (hu : X.A.units + 1 < cLine) : IxR X (rIxX K) := hK ▸ ix_X hu
theorem sl_K (hK : X.K = K) : SlR X (rSlX K) := hK ▸ sl_X
theorem call_lenK (hK : X.K = K) : CallR X (.builtin "len") (rLenX K) := hK ▸ call_lenX
theorem call_isiK (hK : X.K = K) : CallR X (.builtin "isinstance") (rIsiX K) := hK ▸ call_isiX
theorem call_listK (hK : X.K = K) : CallR X (.type "list") (rListO K) := hK ▸ call_listO
theorem call_tupK (hK : X.K = K) : CallR X (.type "tuple") (rTupO K) := hK ▸ call_tupO
theorem pt_truK (hK : X.K = K) {a : Expr} {ta : TE} (ha : PE X a ta) (he : ∀ whole, isTrue a X.env whole = (do let v ← whole; standAt a.pos; holding [v] (truthy v)) := by intro _; rfl) : PT X a (tTruX K ta) := hK ▸ pt_truX ha he
theorem pi_K (hK : X.K = K) {tg l : Expr} {tl : TE} (hl : PE X l tl) : PI X tg l (iX K tl) := hK ▸ pi_X hl
theorem cr_sumK (hK : X.K = K) (hc : X.calm = true) : CallR X (.builtin "sum") (rSum K) := hK ▸ cr_sum hc
theorem cr_allK (hK : X.K = K) (hc : X.calm = true) : CallR X (.builtin "all") (rAll K) := hK ▸ cr_all hc
theorem cr_anyK (hK : X.K = K) (hc : X.calm = true) : CallR X (.builtin "any") (rAny K) := hK ▸ cr_any hc
theorem pg_tupK (hK : X.K = K) {es : List Expr} {k : Nat} {t : TGs} {n : Nat} {pos : Pos} {i : ExprContext} (hc : X.calm = true) (h : PGs X es t)
    (hn : (assignEach es X.env).length = n := by rfl) (hst : (assignEach es X.env).findIdx? (·.1) = none := by rfl) : PG X (.Tuple es k pos) (gTup K n t) := hK ▸ pg_tup hc h hn hst
end
def BmW (K : PySem.W.Frag) (T : String) (rc : V → List V → Hp → VK → Prop) (ta : TA) (σ : St) (x : V) (H1 : Hp) (Q : VK) : Prop := tyV K T x H1 ∧ ta σ H1 fun vs H2 => rc x vs H2 Q
def BmW0 (K : PySem.W.Frag) (T : String) (rc : V → List V → Hp → VK → Prop) (x : V) (H1 : Hp) (Q : VK) : Prop := tyV K T x H1 ∧ rc x [] H1 Q
section
variable {K : PySem.W.Frag} {H : Hp} {Q : VK} {σ : St}
/-! ### bound methods -/
theorem go_bm {T : String} {rc : V → List V → Hp → VK → Prop} {te : TE} {ta : TA} (h : te σ H fun x H1 => BmW K T rc ta σ x H1 Q) : tBM K T rc te ta σ H Q := h
theorem go_bmW {T : String} {rc : V → List V → Hp → VK → Prop} {ta : TA} {x : V} (h1 : tyV K T x H) (h : ta σ H fun vs H2 => rc x vs H2 Q) : BmW K T rc ta σ x H Q := ⟨h1, h⟩
theorem go_bm0 {T : String} {rc : V → List V → Hp → VK → Prop} {te : TE} (h : te σ H fun x H1 => BmW0 K T rc x H1 Q) : tBM0 K T rc te σ H Q := h
theorem go_bmW0 {T : String} {rc : V → List V → Hp → VK → Prop} {x : V} (h1 : tyV K T x H) (h : rc x [] H Q) : BmW0 K T rc x H Q := ⟨h1, h⟩
theorem tyV_s {z : Str} : tyV K "str" (.str z) H := rfl
theorem tyV_l {p : Addr} {xs : List V} (h : SqL K H p xs) : tyV K "list" (.ref p) H := .inl ⟨rfl, xs, h⟩
theorem tyV_d {p : Addr} {kvs : List (Key × V)} (h : H p = some (.dK kvs)) : tyV K "dict" (.ref p) H := .inr (.inr (.inl ⟨rfl, .inl ⟨kvs, h⟩⟩))
theorem tyV_dT {p : Addr} {kvs} (h : H p = some (.dT kvs)) : tyV K "dict" (.ref p) H := .inr (.inr (.inl ⟨rfl, .inr ⟨kvs, h⟩⟩))
theorem go_append {l : Addr} {xs : List V} {y : V} (hl : H l = some (.lst xs)) (z : xs.length < 100000) (h : Q .non (upd H l (.lst (xs ++ [y])))) : rAppend (.ref l) [y] H Q := ⟨l, xs, y, rfl, rfl, hl, Nat.lt_of_lt_of_le z (by decide), h⟩
end
end L2.A

namespace L2.A
open PySem PySem.Spec PyProof.Rows
section
variable {σ σ' : St} {H : Hp} {D : Ends} {u v w : V} {i j l : Nat} {ta : TA}
def P3 (i j l : Nat) (σ : St) (D : Ends) (vs : List V) (H1 : Hp) : Prop := ∃ u v w, vs = [u, v, w] ∧ D.nx (((σ.set i (some u)).set j (some v)).set l (some w)) H1
def P2 (i j : Nat) (σ : St) (D : Ends) (vs : List V) (H1 : Hp) : Prop := ∃ u v, vs = [u, v] ∧ D.nx ((σ.set i (some u)).set j (some v)) H1
theorem go_par3 (h : ta σ H fun vs H1 => P3 i j l σ D vs H1) : tPar3 i j l ta D σ H := h
theorem go_par (h : ta σ H fun vs H1 => P2 i j σ D vs H1) : tPar i j ta D σ H := h
theorem go_p3 (e : ((σ.set i (some u)).set j (some v)).set l (some w) = σ') (h : D.nx σ' H) : P3 i j l σ D [u, v, w] H := ⟨u, v, w, rfl, by rw [e]; exact h⟩
theorem go_p2 (e : (σ.set i (some u)).set j (some v) = σ') (h : D.nx σ' H) : P2 i j σ D [u, v] H := ⟨u, v, rfl, by rw [e]; exact h⟩
end
theorem kp_mut {fp : Addr → Prop} {H H' : Hp} {l : Addr} {o : HO} (k : Kp fp H H') (h : H l = none) : Kp fp H (upd H' l o) := fun a u e n => by rw [upd_ne (ne_of_none e h)]; exact k a u e n
theorem kp_new {fp : Addr → Prop} {H H' : Hp} {l : Addr} {o : HO} (k : Kp fp H H') (h : H' l = none) : Kp fp H (upd H' l o) := k.trans (Kp.same (same_new h))
end L2.A

namespace L2.A
open PySem PySem.Spec PyProof.Rows
/-- a new object, the heap abstract -/
theorem go_new {o : HO} {H : Hp} {Q : VK} (h : ∀ p H', H p = none → Same H H' → H' p = some o → Q (.ref p) H') : NewO o H Q := fun p hp => h p _ hp (same_new hp) upd_same
/-- the same, from an earlier heap -/
theorem go_newS {o : HO} {H0 H : Hp} {Q : VK} (s : Same H0 H) (h : ∀ p H', H0 p = none → Same H0 H' → H' p = some o → Q (.ref p) H') : NewO o H Q := fun p hp => h p _ (s.free hp) (s.trans (same_new hp)) upd_same
end L2.A

namespace L2.A
open PySem PySem.Spec PyProof.Rows
section
variable {X : Cx} {K : PySem.W.Frag} {σ σ' : St} {H : Hp} {D : Ends} {Q : VK} {J : It} {n : Nat} {G : Hp → Prop} {Y : Nat → Hp → V → Hp → Prop}
/-! ### walks of any kind -/
theorem ForW.it (w : Walk J n G Y) {g : TG} {tb : TS} (Pv : Nat → St → Hp → Prop) (h0 : Pv 0 σ H) (hG : ∀ i σ H, i ≤ n → Pv i σ H → G H)
    (hs : ∀ i x σ H H', i < n → Pv i σ H → Y i H x H' → g x σ H' fun σ2 H2 => tb { D with nx := Pv (i + 1), ct := Pv (i + 1), bk := D.nx } σ2 H2) (hd : ∀ σ H, Pv n σ H → D.nx σ H) : ForW J g tb D σ H := for_it w Pv h0 hG hs hd
theorem LcW.it (w : Walk J n G Y) {H1 : Hp} {g : TG} {tt : TT} {te : TE} {vs : List Nat} (R : Addr → Nat → List V → Hp → Prop) (hz : n ≤ 100000) (h0 : ∀ D, H1 D = none → R D 0 [] (upd H1 D (.lst []))) (hG : ∀ D i ys H, H1 D = none → i ≤ n → H D = some (.lst ys) → R D i ys H → G H)
    (hs : ∀ D i x ys H H', H1 D = none → i < n → ys.length ≤ i → H D = some (.lst ys) → R D i ys H → Y i H x H' → ∀ (yes : V → Hp → Prop) (no : Hp → Prop),
      (∀ y H'', H'' D = some (.lst ys) → R D (i + 1) (ys ++ [y]) (upd H'' D (.lst (ys ++ [y]))) → yes y H'') → (∀ H'', H'' D = some (.lst ys) → R D (i + 1) ys H'' → no H'') →
      g x (wipe σ vs) H' fun σ2 H2 => wipe σ2 vs = wipe σ vs ∧ tt σ2 H2 fun b H3 => if b = true then te σ2 H3 yes else no H3)
    (hd : ∀ D ys H', H1 D = none → H' D = some (.lst ys) → ys.length ≤ n → R D n ys H' → Q (.ref D) H') : LcW J g tt te vs σ H1 Q := by
  intro D hD
  refine lc_it w (fun i H' => ∃ ys, H' D = some (.lst ys) ∧ ys.length ≤ i ∧ R D i ys H') ⟨[], upd_same, Nat.le_refl _, h0 D hD⟩ (fun i H' hi ⟨ys, e, _, r⟩ => hG D i ys H' hD hi e r) (fun i x H' H'' hi ⟨ys, e, hl, r⟩ y => ?_) fun H' ⟨ys, e, hl, r⟩ => hd D ys H' hD e hl r
  refine hs D i x ys H' H'' hD hi hl e r y _ _ (fun z H3 e3 r3 => ⟨ys, e3, ?_, ys ++ [z], upd_same, by rw [List.length_append]; show ys.length + 1 ≤ _; omega, r3⟩) fun H3 e3 r3 => ⟨ys, e3, by omega, r3⟩
  exact Nat.lt_of_le_of_lt hl (Nat.lt_of_lt_of_le hi (Nat.le_trans hz (by decide)))
/-! ### reversed(range), enumerate, zip -/
def RvR (a b : Int) (H1 : Hp) (R : It → Hp → Prop) : Prop := -(2 ^ 62) ≤ a ∧ a < 2 ^ 62 ∧ -(2 ^ 62) ≤ b ∧ b < 2 ^ 62 ∧ R (Itc (a + (((b - a).toNat : Nat) : Int) - 1) (-1) (b - a).toNat) H1
def Rg1 (x : V) (H1 : Hp) (Q : Int → Int → Hp → Prop) : Prop := ∃ n, x = .int n ∧ Q 0 n H1
theorem go_revR {tr : St → Hp → (Int → Int → Hp → Prop) → Prop} {R : It → Hp → Prop} (h : tr σ H fun a b H1 => RvR a b H1 R) : iRevR tr σ H R := h
theorem go_rg1 {ta : TE} {Q : Int → Int → Hp → Prop} (h : ta σ H fun x H1 => Rg1 x H1 Q) : tRg1 ta σ H Q := h
theorem go_rg1b {n : Int} {Q : Int → Int → Hp → Prop} (h : Q 0 n H) : Rg1 (.int n) H Q := ⟨n, rfl, h⟩
theorem go_rvR {b : Int} {R : It → Hp → Prop} (h1 : 0 ≤ b ∧ b ≤ 100000) (h : R (Itc (b - 1) (-1) b.toNat) H) : RvR 0 b H R := ⟨by omega, by omega, by omega, by omega, by rw [show (0 : Int) + (((b - 0).toNat : Nat) : Int) - 1 = b - 1 by omega, show (b - 0).toNat = b.toNat by omega]; exact h⟩
def EnW (K : PySem.W.Frag) (vs : List V) (H1 : Hp) (R : It → Hp → Prop) : Prop := ∃ a xs, vs = [.ref a] ∧ SqL K H1 a xs ∧ R (Ite K a) H1
theorem go_enum {ta : TA} {R : It → Hp → Prop} (h : ta σ H fun vs H1 => EnW K vs H1 R) : iEnum K ta σ H R := h
theorem go_enW {a : Addr} {xs : List V} {R : It → Hp → Prop} (hS : SqL K H a xs) (h : R (Ite K a) H) : EnW K [.ref a] H R := ⟨a, xs, rfl, hS, h⟩
def ZpW (K : PySem.W.Frag) (vs : List V) (H1 : Hp) (R : It → Hp → Prop) : Prop := ∃ a b xs ys, vs = [.ref a, .ref b] ∧ SqL K H1 a xs ∧ SqL K H1 b ys ∧ R (Itz K a b) H1
theorem go_zip {ta : TA} {R : It → Hp → Prop} (h : ta σ H fun vs H1 => ZpW K vs H1 R) : iZip K ta σ H R := h
theorem go_zpW {a b : Addr} {xs ys : List V} {R : It → Hp → Prop} (hS : SqL K H a xs) (hT : SqL K H b ys) (h : R (Itz K a b) H) : ZpW K [.ref a, .ref b] H R := ⟨a, b, xs, ys, rfl, hS, hT, h⟩
/-! ### name op= e, o[i] op= e -/
theorem ip_addX : PIp X .Add (fun x y H Q => rI0 (fun i j => .int (i + j)) x y H Q ∨ rStrA x y H Q ∨ rExt2 x y H Q) := iop_add.or (iop_add_str.or iop_ext)
def AugW (te : TE) (ti : TIp) (σ : St) (i : Nat) (D : Ends) (x : V) (H : Hp) : Prop := te σ H fun y H1 => ti x y H1 fun z H2 => D.nx (σ.set i (some z)) H2
theorem go_aug {i : Nat} {te : TE} {ti : TIp} {x : V} (e : σ[i]? = some (some x)) (h : te σ H fun y H1 => ti x y H1 fun z H2 => gName i z σ H2 D.nx) : tAug i te ti D σ H := ⟨x, e, h⟩
theorem go_ipI {f : Int → Int → Int} {a b : Int} (h : Q (.int (f a b)) H) : ipI f (.int a) (.int b) H Q := ⟨a, b, rfl, rfl, h⟩
theorem go_ipA {a b : Int} (h : Q (.int (a + b)) H) : (rI0 (fun i j => .int (i + j)) (.int a) (.int b) H Q ∨ rStrA (.int a) (.int b) H Q ∨ rExt2 (.int a) (.int b) H Q) := .inl ⟨a, b, rfl, rfl, h⟩
theorem go_ipS {a b : Str} (z : a.length + b.length ≤ sizeLine) (h : Q (.str (a ++ b)) H) : (rI0 (fun i j => .int (i + j)) (.str a) (.str b) H Q ∨ rStrA (.str a) (.str b) H Q ∨ rExt2 (.str a) (.str b) H Q) := .inr (.inl ⟨a, b, rfl, rfl, z, h⟩)
theorem go_ipL {a b : Addr} {xs ys : List V} (hp : H a = some (.lst xs)) (hq : H b = some (.lst ys)) (z : xs.length + ys.length ≤ sizeLine) (h : Q (.ref a) (upd H a (.lst (xs ++ ys)))) : (rI0 (fun i j => .int (i + j)) (.ref a) (.ref b) H Q ∨ rStrA (.ref a) (.ref b) H Q ∨ rExt2 (.ref a) (.ref b) H Q) := .inr (.inr ⟨a, b, xs, ys, rfl, rfl, hp, hq, z, h⟩)
end
/-! ### lists told by a function of the place -/
def lstF (n : Nat) (f : Nat → V) : List V := (List.range n).map f
theorem lstF_len {n : Nat} {f : Nat → V} : (lstF n f).length = n := by simp [lstF]
theorem lstF_at {n : Nat} {f : Nat → V} {i : Nat} (h : i < n) : (lstF n f)[i]? = some (f i) := by simp [lstF, h]
theorem lstF_atI {n : Nat} {f : Nat → V} {i : Int} (h0 : 0 ≤ i) (h1 : i < n) : atI (lstF n f) i = some (f i.toNat) := by
  obtain ⟨j, rfl⟩ : ∃ j : Nat, i = (j : Int) := ⟨i.toNat, by omega⟩
  exact atI_nat (lstF_at (by omega))
theorem lstF_last {n : Nat} {f : Nat → V} : atI (lstF (n + 1) f) (-1) = some (f n) := by
  have e : ixN (n + 1) (-1) = some n := by
    unfold ixN
    rw [if_neg (by omega), if_pos (by omega)]
    congr 1
    omega
  unfold atI
  rw [lstF_len, e]
  exact lstF_at (by omega)
theorem lstF_app {n : Nat} {f : Nat → V} {v : V} : lstF n f ++ [v] = lstF (n + 1) (fun i => if i = n then v else f i) := by
  unfold lstF
  rw [List.range_succ, List.map_append]
  congr 1
  · refine List.map_congr_left fun i hi => ?_
    rw [if_neg (by have := List.mem_range.mp hi; omega)]
  · simp
theorem lstF_set {n k : Nat} {f : Nat → V} {v : V} (h : k < n) : (lstF n f).set k v = lstF n (fun i => if i = k then v else f i) := by
  apply List.ext_getElem?
  intro i
  unfold lstF
  rw [List.getElem?_set]
  by_cases e : k = i
  · subst e
    simp [h]
  · rw [if_neg e]
    by_cases l : i < n
    · simp [l, Ne.symm e]
    · simp [l]
theorem lstF_congr {n : Nat} {f g : Nat → V} (h : ∀ i, i < n → f i = g i) : lstF n f = lstF n g := List.map_congr_left fun i hi => h i (List.mem_range.mp hi)
theorem lstF_cut {n m : Nat} {f : Nat → V} (h : m ≤ n) : cutV (lstF n f) none (some (m : Int)) = lstF m f := by
  unfold cutV
  rw [HT.sIx_nat, HT.sIx_none, lstF_len, Nat.min_eq_left h, List.drop_zero, Nat.sub_zero]
  unfold lstF
  rw [← List.map_take, List.take_range, Nat.min_eq_left h]
theorem lstF_of (xs : List V) (d : V) : xs = lstF xs.length (fun i => xs.getD i d) := by
  apply List.ext_getElem?
  intro i
  by_cases l : i < xs.length
  · rw [lstF_at l]; simp [l]
  · simp [lstF, l]
end L2.A

namespace L2.A
open PySem PySem.Spec PyProof.Rows
theorem DpAll.map {K : PySem.W.Frag} {H : Hp} {α : Type} {f : α → V} {g : α → PyData} : ∀ {xs : List α}, (∀ x ∈ xs, Dp K H (f x) (g x)) → DpAll K H (xs.map f) (xs.map g)
  | [], _ => .nil
  | x :: xs, h => .cons (h x (List.mem_cons_self ..)) (DpAll.map fun y m => h y (List.mem_cons_of_mem _ m))
theorem canAll_map {α : Type} {g : α → PyData} : ∀ {xs : List α}, (∀ x ∈ xs, (g x).canLay0 = true) → PyData.canLayAll0 (xs.map g) = true
  | [], _ => rfl
  | x :: xs, h => by
    simp only [List.map_cons, PyData.canLayAll0, h x (List.mem_cons_self ..), canAll_map fun y m => h y (List.mem_cons_of_mem _ m), Bool.and_self]
theorem depthAll_map {α : Type} {g : α → PyData} {d : Nat} : ∀ {xs : List α}, (∀ x ∈ xs, (g x).depth ≤ d) → PyData.depthAll (xs.map g) ≤ d
  | [], _ => Nat.zero_le _
  | x :: xs, h => by
    simp only [List.map_cons, PyData.depthAll]
    exact Nat.max_le.mpr ⟨h x (List.mem_cons_self ..), depthAll_map fun y m => h y (List.mem_cons_of_mem _ m)⟩
theorem shaped_of {d : PyData} (h1 : d.canLay0 = true) (h2 : d.depth ≤ 64) : SeqAt.shaped d = true := by
  unfold SeqAt.shaped
  rw [h1, decide_eq_true h2]; rfl
theorem go_eqD {K : PySem.W.Frag} {H : Hp} {Q : VK} {x y : V} {d e : PyData} (h1 : Dp K H x d) (h2 : Dp K H y e) (s1 : SeqAt.shaped d = true) (s2 : SeqAt.shaped e = true) (h : Q (.bl (PyData.eqv d e)) H) : rEqX K x y H Q := .inr ⟨d, e, h1, h2, s1, s2, h⟩
theorem go_neD {K : PySem.W.Frag} {H : Hp} {Q : VK} {x y : V} {d e : PyData} (h1 : Dp K H x d) (h2 : Dp K H y e) (s1 : SeqAt.shaped d = true) (s2 : SeqAt.shaped e = true) (h : Q (.bl (!PyData.eqv d e)) H) : rNeX K x y H Q := .inr ⟨d, e, h1, h2, s1, s2, h⟩
theorem go_eqDs {K : PySem.W.Frag} {H : Hp} {Q : VK} {x y : V} {d : PyData} (h1 : Dp K H x d) (h2 : Dp K H y d) (s1 : d.canLay0 = true) (s2 : d.depth ≤ 64) (h : Q (.bl true) H) : rEqX K x y H Q :=
  go_eqD h1 h2 (shaped_of s1 s2) (shaped_of s1 s2) (by rw [SeqAt.eqv_refl d s1]; exact h)
theorem go_neDs {K : PySem.W.Frag} {H : Hp} {Q : VK} {x y : V} {d : PyData} (h1 : Dp K H x d) (h2 : Dp K H y d) (s1 : d.canLay0 = true) (s2 : d.depth ≤ 64) (h : Q (.bl false) H) : rNeX K x y H Q :=
  go_neD h1 h2 (shaped_of s1 s2) (shaped_of s1 s2) (by rw [SeqAt.eqv_refl d s1]; exact h)
end L2.A

namespace L2.A
open PySem PySem.Spec PyProof.Rows
theorem lstF_cutM {n m : Nat} {f : Nat → V} : cutV (lstF n f) none (some (m : Int)) = lstF (min m n) f := by
  unfold cutV
  rw [HT.sIx_nat, HT.sIx_none, lstF_len, List.drop_zero, Nat.sub_zero]
  unfold lstF
  rw [← List.map_take, List.take_range, Nat.min_eq_left (Nat.min_le_right _ _)]
theorem cut_take {xs : List V} {k : Nat} (h : k ≤ xs.length) : cutV xs none (some (k : Int)) = xs.take k := by
  unfold cutV
  rw [HT.sIx_nat, HT.sIx_none, List.drop_zero, Nat.sub_zero, Nat.min_eq_left h]
theorem cut_drop {xs : List V} {k : Nat} (h : k ≤ xs.length) : cutV xs (some (k : Int)) none = xs.drop k := by
  unfold cutV
  rw [HT.sIx_nat, HT.sIx_none, Nat.min_eq_left h]
  exact List.take_of_length_le (by rw [List.length_drop]; omega)
theorem perm_eq : ∀ {xs ys : List Int}, xs.Perm ys → xs.Pairwise (· ≤ ·) → ys.Pairwise (· ≤ ·) → xs = ys
  | [], ys, p, _, _ => p.symm.eq_nil.symm
  | x :: xs, [], p, _, _ => p.eq_nil
  | x :: xs, y :: ys, p, hx, hy => by
    have h1 : x ≤ y := by
      rcases List.mem_cons.mp (p.symm.subset (List.mem_cons_self ..) : y ∈ x :: xs) with e | m
      · omega
      · exact List.rel_of_pairwise_cons hx m
    have h2 : y ≤ x := by
      rcases List.mem_cons.mp (p.subset (List.mem_cons_self ..) : x ∈ y :: ys) with e | m
      · omega
      · exact List.rel_of_pairwise_cons hy m
    obtain rfl : x = y := by omega
    rw [perm_eq ((List.perm_cons x).mp p) (List.Pairwise.of_cons hx) (List.Pairwise.of_cons hy)]
theorem ints_ok (ns : List Int) : (ns.map V.int).all okV = true := by
  rw [List.all_eq_true]
  intro v m
  obtain ⟨i, _, rfl⟩ := List.mem_map.mp m
  rfl
theorem go_sorted {K : PySem.W.Frag} {H : Hp} {Q : VK} {a : Addr} {ns : List Int} (hS : SqL K H a (ns.map V.int)) (hz : ns.length < 64) (h : ∀ (ns' : List Int) (p : Addr), ns'.Perm ns → ns'.Pairwise (· ≤ ·) → H p = none → Q (.ref p) (upd H p (.lst (ns'.map V.int)))) : rSorted K [.ref a] H Q := ⟨a, ns, rfl, hS, hz, h⟩
end L2.A

namespace L2.A
open PySem PySem.Spec PyProof.Rows
theorem go_mulL {H : Hp} {Q : VK} {l : Addr} {k : Int} {xs : List V} (hp : H l = some (.lst xs)) (h0 : 0 ≤ k ∧ k ≤ 1000) (z : xs.length ≤ 100) (h : NewO (.lst (List.replicate k.toNat xs).flatten) H Q) : rMulX (.ref l) (.int k) H Q :=
  (.inr ∘ .inl) ⟨l, k, xs, rfl, rfl, hp, by omega, by omega, Nat.le_trans (Nat.mul_le_mul z (show k.toNat ≤ 1000 by omega)) (by decide), h⟩
end L2.A

namespace L2.A
open PySem PySem.Spec PyProof.Rows
section
variable {K : PySem.W.Frag} {H : Hp} {Q : VK}
/-! ### methods of texts -/
theorem go_joinL {a : Str} {p : Addr} {ys : List Str} (hp : SqL K H p (ys.map V.str)) (z : (ys.map (·.length)).sum + ys.length * a.length ≤ 16777216) (h : Q (.str (Txt.join a ys)) H) :
    (∃ a' p', ∃ ys' : List Str, V.str a = .str a' ∧ [V.ref p] = [.ref p'] ∧ (SqL K H p' (ys'.map V.str) ∨ SqT K H p' (ys'.map V.str)) ∧ (ys'.map (·.length)).sum + ys'.length * a'.length ≤ 16777216 ∧ Q (.str (Txt.join a' ys')) H) := ⟨a, p, ys, rfl, rfl, .inl hp, z, h⟩
theorem go_split {a b : Str} (h1 : (b.length == 0) = false) (h2 : a.length ≤ 10000) (h : NewO (.lst ((Txt.split a b).map V.str)) H Q) :
    (∃ a' b', V.str a = .str a' ∧ [V.str b] = [.str b'] ∧ (b'.length == 0) = false ∧ a'.length + 2 ≤ sizeLine ∧ rNewStrs (Txt.split a' b') H Q) := ⟨a, b, rfl, rfl, h1, Nat.le_trans (show a.length + 2 ≤ 10002 by omega) (by decide), h⟩
theorem go_starts {a b : Str} (h : Q (.bl (Txt.startswith a b)) H) : (∃ a' b', V.str a = .str a' ∧ [V.str b] = [.str b'] ∧ Q (.bl (Txt.startswith a' b')) H) := ⟨a, b, rfl, rfl, h⟩
theorem go_find {a b : Str} (h : Q (.int (Txt.find a b)) H) : (∃ a' b', V.str a = .str a' ∧ [V.str b] = [.str b'] ∧ Q (.int (Txt.find a' b')) H) := ⟨a, b, rfl, rfl, h⟩
end
end L2.A

namespace L2.A
open PySem PySem.Spec PyProof.Rows
theorem cutS_le {z : Str} {lo hi : Option Int} : (cutS z lo hi).length ≤ z.length := by
  have e : (cutS z lo hi).length = ((z.cps.toList.drop (HT.sIx z.length 0 lo)).take (HT.sIx z.length z.length hi - HT.sIx z.length 0 lo)).length := by
    unfold cutS
    exact List.size_toArray ..
  rw [e, List.length_take, List.length_drop]
  have h : z.length = z.cps.toList.length := (Array.length_toList ..).symm
  omega
end L2.A

namespace L2.A
open PySem PySem.Spec PyProof.Rows
/-- a statement that is never reached -/
def tDead : TS := fun _ _ _ => False
theorem ps_dead {X : Cx} {st : Stmt} : PS X st tDead := ⟨fun _ _ _ _ _ _ h => False.elim h⟩
end L2.A

namespace L2.Toy
open PySem PySem.Spec PyProof.Rows L2.A
local macro_rules | `(tactic| walk_at "sqT") => `(tactic| first | assumption | exact .of upd_same | exact .of (by assumption) | exact seqT_same (by assumption) (by walk_at "same") | exact .of (ge2 (by assumption) (by walk_at "same")))
local macro_rules | `(tactic| walk_at "sqL") => `(tactic| first | assumption | exact .of upd_same | exact .of (by assumption) | exact seqL_same (by assumption) (by walk_at "same") | exact .of (ge2 (by assumption) (by walk_at "same")))
local macro_rules | `(tactic| walk_at "obj") => `(tactic| first | exact upd_same | assumption | exact ge2 (by assumption) (by walk_at "same"))
local macro_rules | `(tactic| walk_at "ty") => `(tactic| first | exact tyV_s | exact tyV_l (by walk_at "sqL") | exact tyV_d (by walk_at "obj") | exact tyV_dT (by walk_at "obj"))
local macro_rules | `(tactic| walk_at "1") => `(tactic| first
  | with_reducible refine go_seq ?_
  | with_reducible refine go_nx ?_
  | with_reducible refine go_asg ?_
  | with_reducible refine go_op ?_
  | ((with_reducible refine' go_var ?e ?_); (case e => exact rfl))
  | ((with_reducible refine' go_name ?e ?_); (case e => (simp only [List.set_cons_zero, List.set_cons_succ]; rfl)))
  | with_reducible refine go_c ?_
  | with_reducible refine go_I0 ?_
  | with_reducible refine go_addI ?_
  | ((with_reducible refine go_mulI ?e ?_); (case e => (show CMul _ _; unfold CMul; omega)))
  | ((with_reducible refine go_I ?e ?_); (case e => (first | omega | (show CDiv _ _; unfold CDiv; omega) | (show (0 : Int) < _; omega))))
  | with_reducible refine go_if ?_
  | with_reducible refine go_test ?_
  | with_reducible refine go_bl ?_
  | ((with_reducible refine go_eqS ?e ?_); (case e => exact rfl))
  | ((with_reducible refine go_neS ?e ?_); (case e => exact rfl))
  | with_reducible refine go_isN ?_
  | with_reducible refine go_notN ?_
  | with_reducible refine go_isB ?_
  | with_reducible refine go_notB ?_
  | with_reducible refine go_ret ?_
  | with_reducible refine go_rt ?_
  | with_reducible refine go_retN ?_
  | with_reducible refine go_cons ?_
  | with_reducible refine go_nil ?_
  | with_reducible refine go_call ?_
  | with_reducible refine go_CB ?_
  | with_reducible refine go_tup ?_
  | with_reducible refine go_lst ?_
  | with_reducible refine go_newT rfl ?_
  | with_reducible refine go_newL rfl ?_
  | with_reducible refine go_not ?_
  | ((with_reducible refine' go_andP ?a ?b ?_); (case a => (intro QB' hQ; (walk_at "*"); exact hQ)); (case b => (intro QB' hQ; (walk_at "*"); exact hQ)))
  | ((with_reducible refine' go_orP ?a ?b ?_); (case a => (intro QB' hQ; (walk_at "*"); exact hQ)); (case b => (intro QB' hQ; (walk_at "*"); exact hQ)))
  | ((with_reducible refine' go_andVP ?a ?b ?_); (case a => (intro QB' hQ; (walk_at "*"); exact hQ)); (case b => (intro QB' hQ; (walk_at "*"); exact hQ)))
  | ((with_reducible refine' go_orVP ?a ?b ?_); (case a => (intro QB' hQ; (walk_at "*"); exact hQ)); (case b => (intro QB' hQ; (walk_at "*"); exact hQ)))
  | ((with_reducible refine' go_ifxP ?a ?b ?c ?_); (case a => (intro QB' hQ; (walk_at "*"); exact hQ)); (case b => (intro QB' hQ; (walk_at "*"); exact hQ)); (case c => (intro QB' hQ; (walk_at "*"); exact hQ)))
  | with_reducible refine go_and ?_
  | with_reducible refine go_or ?_
  | with_reducible refine go_andV ?_
  | with_reducible refine go_orV ?_
  | with_reducible refine go_notV ?_
  | with_reducible refine go_tru ?_
  | with_reducible refine go_truB ?_
  | with_reducible refine go_truI ?_
  | with_reducible refine go_chain ?_
  | with_reducible refine go_ifx ?_
  | with_reducible refine go_drop ?_
  | with_reducible refine go_un ?_
  | with_reducible refine go_U ?_
  | with_reducible refine go_gcons ?_
  | with_reducible refine go_gnil ?_
  | with_reducible refine go_sub ?_
  | with_reducible refine go_intI ?_
  | with_reducible refine go_intB ?_
  | ((with_reducible refine' go_xT ?a ?b ?_); (case a => walk_at "sqT"); (case b => exact rfl))
  | ((with_reducible refine' go_xL ?a ?b ?_); (case a => walk_at "sqL"); (case b => exact rfl))
  | ((with_reducible refine' go_gtup ?a ?b ?_); (case a => walk_at "sqT"); (case b => exact rfl))
  | with_reducible refine go_sl ?_
  | with_reducible refine go_nopart ?_
  | with_reducible refine go_part ?_
  | with_reducible refine go_partI ?_
  | ((with_reducible refine' go_slT ?a ?b ?c ?_); (case a => walk_at "sqT"); (case b => exact rfl); (case c => exact rfl))
  | with_reducible refine go_min3 ?_
  | with_reducible refine go_max3 ?_
  | with_reducible refine go_disp ?_
  | with_reducible refine go_pairs ?_
  | with_reducible refine go_pairs0 ?_
  | ((with_reducible refine' go_dispK ?a ?b ?c ?_); (case a => first | exact upd_same | assumption); (case b => exact rfl); (case c => exact rfl))
  | with_reducible refine go_next ?_
  | with_reducible refine go_for ?_
  | with_reducible refine go_lc ?_
  | with_reducible refine go_iX ?_
  | with_reducible refine go_rng1 ?_
  | with_reducible refine go_rng2 ?_
  | ((with_reducible refine go_rn1 ?e ?_); (case e => omega))
  | ((with_reducible refine go_rn2 ?e ?_); (case e => omega))
  | with_reducible refine go_yes ?_
  | with_reducible refine go_max ?_
  | with_reducible refine go_min ?_
  | with_reducible refine go_abs ?_
  | ((with_reducible refine' go_isi ?e ?f ?_); (case e => first | exact .base (.int _) | exact .base (.bl _) | exact .base (.str _) | exact .base .non | exact .base (.tup (by assumption)) | exact .base (.lst (by assumption)) | exact .base (.tup (ge2 (by assumption) (by walk_at "same"))) | exact .base (.lst (ge2 (by assumption) (by walk_at "same")))); (case f => first | exact kit_ii | exact kit_ib | exact kit_bb | exact kit_bi | exact kit_ss | exact kit_nb | exact kit_ni | exact kit_ns | exact kit_nt | exact kit_is | exact kit_si | exact kit_sb | exact kit_bs | exact kit_tt | exact kit_ll | exact kit_tl | exact kit_lt))
  | ((with_reducible refine' go_lenS ?a ?_); (case a => exact szl (by omega)))
  | ((with_reducible refine' go_lenT ?a ?_); (case a => walk_at "sqT"))
  | ((with_reducible refine' go_lenL ?a ?_); (case a => walk_at "sqL"))
  | with_reducible refine go_revR ?_
  | with_reducible refine go_rg1 ?_
  | with_reducible refine go_rg1b ?_
  | ((with_reducible refine go_rvR ?e ?_); (case e => omega))
  | with_reducible refine go_enum ?_
  | with_reducible refine go_zip ?_
  | ((with_reducible refine' go_aug ?e ?_); (case e => exact rfl))
  | with_reducible refine go_ipI ?_
  | with_reducible refine go_ipA ?_
  | with_reducible refine go_par ?_
  | with_reducible refine go_par3 ?_
  | ((with_reducible refine' go_p3 ?e ?_); (case e => (simp only [List.set_cons_zero, List.set_cons_succ]; rfl)))
  | ((with_reducible refine' go_p2 ?e ?_); (case e => (simp only [List.set_cons_zero, List.set_cons_succ]; rfl)))
  | with_reducible refine go_bm ?_
  | with_reducible refine go_bm0 ?_
  | ((with_reducible refine' go_bmW ?a ?_); (case a => walk_at "ty"))
  | ((with_reducible refine' go_bmW0 ?a ?_); (case a => walk_at "ty"))
  | ((with_reducible refine' go_append ?a ?b ?_); (case a => walk_at "obj"); (case b => first | exact Nat.lt_of_succ_le (Nat.le_of_ble_eq_true rfl) | omega | (simp only [List.length_append, List.length_cons, List.length_nil, List.length_map]; omega)))
  | with_reducible refine go_brk ?_
  | with_reducible refine go_ct ?_
  | with_reducible refine go_bk ?_
  | with_reducible refine go_ctx ?_
  | (with_reducible refine iteT ?_)
  | (with_reducible refine iteNT ?_)
  | (with_reducible refine iteNF ?_)
  | (with_reducible refine iteF ?_)
  | ((with_reducible refine' and_join ?b ?_); (case b => (intro QB' hQ; (walk_at "*"); exact hQ)))
  | ((with_reducible refine' or_join ?b ?_); (case b => (intro QB' hQ; (walk_at "*"); exact hQ)))
  | ((with_reducible refine' andV_join ?b ?_); (case b => (intro QB' hQ; (walk_at "*"); exact hQ)))
  | ((with_reducible refine' orV_join ?b ?_); (case b => (intro QB' hQ; (walk_at "*"); exact hQ)))
  | fail)
local macro_rules | `(tactic| walk_at "*") => `(tactic| ((try dsimp only); (repeat walk_at "1")))
local macro_rules | `(tactic| walk_at "same") => `(tactic| first
  | exact Same.refl _
  | assumption
  | ((refine same_new2 ?_ ?h); (case h => assumption); (walk_at "same"))
  | ((refine same_mut ?_ ?h); (case h => assumption); (walk_at "same"))
  | ((refine same_mut ?_ ?h); (case h => exact Same.free (by walk_at "same") (by assumption)); (walk_at "same"))
  | ((refine' Same.trans ?_ ?h); (case h => assumption); (walk_at "same"))
  | fail)
local macro_rules | `(tactic| walk_at "all") => `(tactic| ((walk_at "*"); first
  | ((refine if2 (fun c => ?_) (fun c => ?_)) <;> (walk_at "all"))
  | ((with_reducible refine go_inT (.of upd_same) rfl rfl ?_); (walk_at "all"))
  | ((with_reducible refine go_ninT (.of upd_same) rfl rfl ?_); (walk_at "all"))
  | ((with_reducible show NewO _ _ _); (intro p hp); (walk_at "all"))
  | skip))

local macro_rules | `(tactic| walk_at "**") => `(tactic| ((try dsimp only); (repeat first
  | walk_at "1"
  | ((with_reducible show NewO _ _ _); (intro p hp))
  | (with_reducible refine go_inT (.of upd_same) rfl rfl ?_)
  | (with_reducible refine go_ninT (.of upd_same) rfl rfl ?_)
  | (with_reducible refine go_inL (.of upd_same) rfl rfl ?_)
  | (with_reducible refine go_ninL (.of upd_same) rfl rfl ?_))))

def top (i : Nat) : Stmt := PySem.Challenge.pw_inningsbook_k02_numbers.main.body.getD i (.Pass ⟨0, 0, 0, 0⟩)
structure Txt (K : PySem.W.Frag) (mg : Str → Option Value) : Prop where
  b_bool : mg "bool" = none
  b_int : mg "int" = none
  b_isinstance : mg "isinstance" = none
  b_len : mg "len" = none
  b_list : mg "list" = none
  b_range : mg "range" = none
  b_str : mg "str" = none
  g_MOST_FIGURES : ∃ t, mg "MOST_FIGURES" = some (.int 4 t)

abbrev drawL (c : Addr) (at_ left num : Int) (dig : Bool) : List (Key × V) := [(Sum.inr "cells", .ref c), (Sum.inr "at", .int at_), (Sum.inr "left", .int left), (Sum.inr "number", .int num), (Sum.inr "digits", .bl dig)]
/-- a draw at p, its place at most n -/
def Draw (H : Hp) (p c : Addr) (n : Int) : Prop := ∃ (ns : List Int) (at_ left num : Int) (dig : Bool), H p = some (.dK (drawL c at_ left num dig)) ∧ H c = some (.lst (ns.map V.int)) ∧ 0 < ns.length ∧ ns.length ≤ 100 ∧ 0 ≤ at_ ∧ at_ ≤ n
theorem Draw.same {H H' : Hp} {p c : Addr} {n : Int} (h : Draw H p c n) (s : Same H H') : Draw H' p c n := by
  obtain ⟨ns, a, l, m, d, e1, e2, r⟩ := h
  exact ⟨ns, a, l, m, d, s _ _ e1, s _ _ e2, r⟩
theorem Draw.le {H : Hp} {p c : Addr} {n m : Int} (h : Draw H p c n) (k : n ≤ m) : Draw H p c m := by
  obtain ⟨ns, a, l, m, d, e1, e2, r1, r2, r3, r4⟩ := h
  exact ⟨ns, a, l, m, d, e1, e2, r1, r2, r3, by omega⟩
theorem Draw.is {H : Hp} {p c : Addr} {n : Int} (h : Draw H p c n) : ∃ o, H p = some (.dK o) := by
  obtain ⟨ns, a, l, m, d, e1, r⟩ := h
  exact ⟨_, e1⟩
theorem Draw.ne {H : Hp} {p c l : Addr} {n : Int} (h : Draw H p c n) (hl : H l = none) : l ≠ p := by
  obtain ⟨o, e⟩ := h.is
  exact (ne_of_none e hl).symm
theorem Draw.nec {H : Hp} {p c l : Addr} {n : Int} (h : Draw H p c n) (hl : H l = none) : l ≠ c := by
  obtain ⟨ns, a, l, m, d, e1, e2, r⟩ := h
  exact (ne_of_none e2 hl).symm
theorem Draw.mut {H : Hp} {p c l : Addr} {n : Int} {o : HO} (h : Draw H p c n) (h1 : l ≠ p) (h2 : l ≠ c) : Draw (upd H l o) p c n := by
  obtain ⟨ns, a, x, m, d, e1, e2, r⟩ := h
  exact ⟨ns, a, x, m, d, by rw [upd_ne h1.symm]; exact e1, by rw [upd_ne h2.symm]; exact e2, r⟩
section
variable {K : PySem.W.Frag} {H : Hp} {Q : VK} {QH : Hp → Prop} {p c : Addr} {a l n v : Int} {d : Bool}
theorem go_xCells (hp : H p = some (.dK (drawL c a l n d))) (h : Q (.ref c) H) : rIxX K (.ref p) (.str "cells") H Q := go_xKs hp rfl h
theorem go_xAt (hp : H p = some (.dK (drawL c a l n d))) (h : Q (.int a) H) : rIxX K (.ref p) (.str "at") H Q := go_xKs hp rfl h
theorem go_xLeft (hp : H p = some (.dK (drawL c a l n d))) (h : Q (.int l) H) : rIxX K (.ref p) (.str "left") H Q := go_xKs hp rfl h
theorem go_xNum (hp : H p = some (.dK (drawL c a l n d))) (h : Q (.int n) H) : rIxX K (.ref p) (.str "number") H Q := go_xKs hp rfl h
theorem go_xDig (hp : H p = some (.dK (drawL c a l n d))) (h : Q (.bl d) H) : rIxX K (.ref p) (.str "digits") H Q := go_xKs hp rfl h
theorem go_sAt (hp : H p = some (.dK (drawL c a l n d))) (h : QH (upd H p (.dK (drawL c v l n d)))) : rSetX (.ref p) (.str "at") (.int v) H QH := go_sKs hp (szl (Nat.le_of_ble_eq_true rfl)) h
theorem go_sLeft (hp : H p = some (.dK (drawL c a l n d))) (h : QH (upd H p (.dK (drawL c a v n d)))) : rSetX (.ref p) (.str "left") (.int v) H QH := go_sKs hp (szl (Nat.le_of_ble_eq_true rfl)) h
theorem go_sNum (hp : H p = some (.dK (drawL c a l n d))) (h : QH (upd H p (.dK (drawL c a l v d)))) : rSetX (.ref p) (.str "number") (.int v) H QH := go_sKs hp (szl (Nat.le_of_ble_eq_true rfl)) h
end
local macro_rules | `(tactic| walk_at "1") => `(tactic| first
  | ((with_reducible refine' go_xCells ?a ?_); (case a => walk_at "obj"))
  | ((with_reducible refine' go_xAt ?a ?_); (case a => walk_at "obj"))
  | ((with_reducible refine' go_xLeft ?a ?_); (case a => walk_at "obj"))
  | ((with_reducible refine' go_xNum ?a ?_); (case a => walk_at "obj"))
  | ((with_reducible refine' go_xDig ?a ?_); (case a => walk_at "obj"))
  | ((with_reducible refine' go_sAt ?a ?_); (case a => walk_at "obj"))
  | ((with_reducible refine' go_sLeft ?a ?_); (case a => walk_at "obj"))
  | ((with_reducible refine' go_sNum ?a ?_); (case a => walk_at "obj")))
theorem cells_at {ns : List Int} (h : 0 < ns.length) (k : Int) : ∃ z, atI (ns.map V.int) (k % (ns.length : Int)) = some (.int z) := by
  obtain ⟨v, e, m⟩ := at_some (xs := ns.map V.int) (r := k % (ns.length : Int)) (Int.emod_nonneg _ (by omega)) (by rw [List.length_map]; exact Int.emod_lt_of_pos _ (by omega))
  obtain ⟨z, _, rfl⟩ := List.mem_map.mp m
  exact ⟨z, e⟩

/-! ### _law_drawn -/
abbrev s__law_drawn : Stmt := top 5
abbrev N__law_drawn : List Str := ["_law_script", "_law_cells"]
theorem sc__law_drawn : FnScope N__law_drawn ["_law_script"] (defScope s__law_drawn) := ⟨rfl, rfl, rfl, by decide +kernel, rfl, by decide +kernel, by decide +kernel⟩
def pr__law_drawn (K : PySem.W.Frag) : V → Hp → VK → XK → Prop := fun a0 H Q E => ∃ (a : Addr) (ns : List Int), a0 = .ref a ∧ SqL K H a (ns.map V.int) ∧ ns.length ≤ 63 ∧ ∀ (p c : Addr) (H' : Hp), H p = none → H c = none → Same H H' → Draw H' p c 0 → Q (.ref p) H' 
abbrev sp__law_drawn (K : PySem.W.Frag) : Sp := Sp1 (pr__law_drawn K)
theorem ok__law_drawn {P : Program} {w : World} {K : PySem.W.Frag} {mg : Str → Option Value} {base : Heap} {f : Addr} {fd : FuncData} (F : FunD K "_law_drawn" "_law_drawn" (defArgs s__law_drawn) (defBody s__law_drawn) (defScope s__law_drawn) [] [] f fd) (T : Txt K mg)  : FnOk P w K mg base CX0 1 f fd ["_law_script"] (sp__law_drawn K) := by
  refine F.ok sc__law_drawn (fun vs H Q E h => len1 h) (fun cdv A outer s H vs Q E hr h => ?_)
  obtain ⟨a0, rfl, h⟩ := h
  have hu := hu_of hr
  refine ⟨_, PSs.nox ((pss_cons (ps_set (i := 1) sc__law_drawn.nd rfl (by first | exact Or.inl rfl | exact Or.inr rfl) (pe_op op_addX (pe_callTy call_listO (by rfl) T.b_list L2.A.boot_list (pa_cons (pv 0) pa_nil)) (pe_op op_mulX (pe_lst (pa_cons pe_int pa_nil)) (pe_callTy call_intX (by rfl) T.b_int L2.A.boot_int (pa_cons (pe_cmpR (op_eqX hr.units) (pv 0) (pe_lst pa_nil) (nomark _)) pa_nil)))))
      (pss_one (ps_ret (pe_disp (pps_cons pe_str (pv 1) (pps_cons pe_str pe_int (pps_cons pe_str pe_int (pps_cons pe_str (pe_op op_fdiv (pe_ix (ix_X hu) (pv 1) pe_int (fun _ _ => rfl)) pe_int) (pps_cons pe_str (pe_cmpR (op_eqX hr.units) (pe_op op_mod (pe_ix (ix_X hu) (pv 1) pe_int (fun _ _ => rfl)) pe_int) pe_int (nomark _)) pps_nil))))) (by rfl) (by rfl) (fun z => by cases z) (by decide)))))), ?_⟩
  refine go_start (σ := [some a0, none]) rfl ?_
  try dsimp only [cxOf, Cx.nox, Cx.wish]
  obtain ⟨a, ns, rfl, hS, hn, hq⟩ := h
  walk_at "*"
  refine go_listL hS fun l hl => ?_
  walk_at "*"
  intro z hz
  walk_at "*"
  intro e he
  walk_at "*"
  refine go_eqL (seqL_same hS (by walk_at "same")) (.of upd_same) (ints_ok ns) rfl ?_
  cases ns with
  | nil =>
    walk_at "*"
    refine go_mulL (xs := [.int 0]) (ge2 upd_same (by walk_at "same")) (show (0 : Int) ≤ 1 ∧ (1 : Int) ≤ 1000 by omega) (by decide) ?_
    intro f hf
    walk_at "*"
    refine go_addL (ge2 upd_same (by walk_at "same")) upd_same (szl (Nat.le_of_ble_eq_true rfl)) ?_
    refine go_newS (H0 := H) (by walk_at "same") fun q H1 nq sq eq => ?_
    replace eq : H1 q = some (.lst ([0].map V.int)) := eq
    walk_at "*"
    intro d hd
    walk_at "*"
    refine hq d q _ (sq.free hd) nq (same_mut (sq.trans (same_new hd)) (sq.free hd)) ⟨[0], 0, 60, _, _, upd_same, ?_, by decide, by decide, by omega, by omega⟩
    rw [upd_ne (ne_of_none eq hd), upd_ne (ne_of_none eq hd)]; exact eq
  | cons x xs =>
    walk_at "*"
    refine go_mulL (xs := [.int 0]) (ge2 upd_same (by walk_at "same")) (show (0 : Int) ≤ 0 ∧ (0 : Int) ≤ 1000 by omega) (by decide) ?_
    intro f hf
    walk_at "*"
    refine go_addL (ge2 upd_same (by walk_at "same")) upd_same (szl (by rw [List.length_map]; show (x :: xs).length + 0 ≤ _; omega)) ?_
    refine go_newS (H0 := H) (by walk_at "same") fun q H1 nq sq eq => ?_
    replace eq : H1 q = some (.lst ((x :: xs).map V.int)) := by rw [eq]; exact congrArg (fun z => some (HO.lst z)) (List.append_nil _)
    walk_at "*"
    intro d hd
    walk_at "*"
    refine go_xL (v := .int x) (.of (ge2 eq (by walk_at "same"))) (by simp [atI, ixN]) ?_
    walk_at "*"
    refine go_xL (v := .int x) (.of (ge2 eq (by walk_at "same"))) (by simp [atI, ixN]) ?_
    walk_at "*"
    refine hq d q _ (sq.free hd) nq (same_mut (sq.trans (same_new hd)) (sq.free hd)) ⟨x :: xs, 0, 60, _, _, upd_same, ?_, by simp, by omega, by omega, by omega⟩
    rw [upd_ne (ne_of_none eq hd), upd_ne (ne_of_none eq hd)]; exact eq
/-! ### _law_pick -/
abbrev s__law_pick : Stmt := top 6
abbrev N__law_pick : List Str := ["_law_draw", "_law_many", "_law_cells", "_law_k", "_law_m", "_law_value"]
theorem sc__law_pick : FnScope N__law_pick ["_law_draw", "_law_many"] (defScope s__law_pick) := ⟨rfl, rfl, rfl, by decide +kernel, rfl, by decide +kernel, by decide +kernel⟩
def pr__law_pick (K : PySem.W.Frag) : V → V → Hp → VK → XK → Prop := fun a0 a1 H Q E => ∃ (p c : Addr) (n m : Int), a0 = .ref p ∧ a1 = .int m ∧ Draw H p c n ∧ n ≤ 9000 ∧ 1 ≤ m ∧ m < 1073741824 ∧ ∀ (r : Int) (H' : Hp), 0 ≤ r → r < m → Kp (fun a => a = p) H H' → Draw H' p c (n + 1) → Q (.int r) H' 
abbrev sp__law_pick (K : PySem.W.Frag) : Sp := Sp2 (pr__law_pick K)
theorem ok__law_pick {P : Program} {w : World} {K : PySem.W.Frag} {mg : Str → Option Value} {base : Heap} {f : Addr} {fd : FuncData} (F : FunD K "_law_pick" "_law_pick" (defArgs s__law_pick) (defBody s__law_pick) (defScope s__law_pick) [] [] f fd) (T : Txt K mg)  : FnOk P w K mg base CX0 1 f fd ["_law_draw", "_law_many"] (sp__law_pick K) := by
  refine F.ok sc__law_pick (fun vs H Q E h => len2 h) (fun cdv A outer s H vs Q E hr h => ?_)
  obtain ⟨a0, a1, rfl, h⟩ := h
  have hu := hu_of hr
  refine ⟨_, PSs.nox ((pss_cons (ps_set (i := 2) sc__law_pick.nd rfl (by first | exact Or.inl rfl | exact Or.inr rfl) (pe_ix (ix_X hu) (pv 0) pe_str (fun _ _ => rfl)))
      (pss_cons (ps_if (pt_truX (pe_ix (ix_X hu) (pv 0) pe_str (fun _ _ => rfl))) (pss_cons (ps_set (i := 5) sc__law_pick.nd rfl (by first | exact Or.inl rfl | exact Or.inr rfl) (pe_op op_mod (pe_ix (ix_X hu) (pv 0) pe_str (fun _ _ => rfl)) (pv 1)))
      (pss_cons (ps_asg (pe_op op_fdiv (pe_ix (ix_X hu) (pv 0) pe_str (fun _ _ => rfl)) (pv 1)) (pg_sub (pv 0) pe_str (set_X hu)))
      (pss_cons (ps_asg (pe_op op_sub (pe_ix (ix_X hu) (pv 0) pe_str (fun _ _ => rfl)) pe_int) (pg_sub (pv 0) pe_str (set_X hu)))
      (pss_cons (ps_if (pt_cmpR (op_eqX hr.units) (pe_ix (ix_X hu) (pv 0) pe_str (fun _ _ => rfl)) pe_int (nomark _)) (pss_cons (ps_asg (pe_op op_addX (pe_ix (ix_X hu) (pv 0) pe_str (fun _ _ => rfl)) pe_int) (pg_sub (pv 0) pe_str (set_X hu)))
      (pss_cons (ps_asg (pe_ix (ix_X hu) (pv 2) (pe_op op_mod (pe_ix (ix_X hu) (pv 0) pe_str (fun _ _ => rfl)) (pe_callB call_lenX (by rfl) T.b_len L2.A.boot_len (pa_cons (pv 2) pa_nil))) (fun _ _ => rfl)) (pg_sub (pv 0) pe_str (set_X hu)))
      (pss_one (ps_asg pe_int (pg_sub (pv 0) pe_str (set_X hu)))))) pss_nil)
      (pss_one (ps_ret (pv 5))))))) pss_nil)
      (pss_cons (ps_asg (pe_op op_addX (pe_ix (ix_X hu) (pv 0) pe_str (fun _ _ => rfl)) pe_int) (pg_sub (pv 0) pe_str (set_X hu)))
      (pss_cons (ps_set (i := 3) sc__law_pick.nd rfl (by first | exact Or.inl rfl | exact Or.inr rfl) (pe_ix (ix_X hu) (pv 0) pe_str (fun _ _ => rfl)))
      (pss_cons (ps_set (i := 4) sc__law_pick.nd rfl (by first | exact Or.inl rfl | exact Or.inr rfl) (pe_op op_mod (pe_op op_mulX (pe_op op_addX (pe_op op_addX (pe_op op_mod (pe_ix (ix_X hu) (pv 2) (pe_op op_mod (pv 3) (pe_callB call_lenX (by rfl) T.b_len L2.A.boot_len (pa_cons (pv 2) pa_nil))) (fun _ _ => rfl)) pe_int) (pe_op op_mulX (pe_op op_mulX (pv 3) (pv 3)) pe_int)) pe_int) pe_int) pe_int))
      (pss_cons (ps_set (i := 4) sc__law_pick.nd rfl (by first | exact Or.inl rfl | exact Or.inr rfl) (pe_op op_mod (pe_op op_mulX (pv 4) (pv 4)) pe_int))
      (pss_one (ps_ret (pe_op op_mod (pe_op op_fdiv (pv 4) pe_int) (pv 1))))))))))), ?_⟩
  refine go_start (σ := [some a0, some a1, none, none, none, none]) rfl ?_
  try dsimp only [cxOf, Cx.nox, Cx.wish]
  obtain ⟨p, c, n, m, rfl, rfl, ⟨ns, a, l, num, d, e1, e2, r1, r2, r3, r4⟩, hn, hm1, hm2, hq⟩ := h
  have pc : c ≠ p := fun z => by rw [z, e1] at e2; cases e2
  walk_at "*"
  refine if2 (fun cd => ?_) (fun cd => ?_)
  · walk_at "*"
    refine if2 (fun cl => ?_) (fun cl => ?_)
    · obtain ⟨z, ez⟩ := cells_at r1 (a + 1)
      walk_at "*"
      refine go_lenL (.of (by rw [upd_ne pc]; rw [upd_ne pc]; rw [upd_ne pc]; exact e2)) ?_
      rw [List.length_map]
      walk_at "*"
      refine go_xL (.of (by rw [upd_ne pc]; rw [upd_ne pc]; rw [upd_ne pc]; exact e2)) ez ?_
      walk_at "*"
      simp only [upd_upd]
      exact hq _ _ (Int.emod_nonneg _ (by omega)) (Int.emod_lt_of_pos _ (by omega)) Kp.upd ⟨ns, _, _, _, _, upd_same, by rw [upd_ne pc]; exact e2, r1, r2, by omega, by omega⟩
    · walk_at "*"
      rw [upd_upd]
      exact hq _ _ (Int.emod_nonneg _ (by omega)) (Int.emod_lt_of_pos _ (by omega)) Kp.upd ⟨ns, _, _, _, _, upd_same, by rw [upd_ne pc]; exact e2, r1, r2, r3, by omega⟩
  · obtain ⟨z, ez⟩ := cells_at r1 (a + 1)
    walk_at "*"
    refine go_lenL (.of (by rw [upd_ne pc]; exact e2)) ?_
    rw [List.length_map]
    walk_at "*"
    refine go_xL (.of (by rw [upd_ne pc]; exact e2)) ez ?_
    walk_at "*"
    exact hq _ _ (Int.emod_nonneg _ (by omega)) (Int.emod_lt_of_pos _ (by omega)) Kp.upd ⟨ns, _, _, _, _, upd_same, by rw [upd_ne pc]; exact e2, r1, r2, by omega, by omega⟩

open NumText
def allIn (w z : Str) : Bool := w.cps.toList.all fun c => decide (c ∈ z.cps.toList)
theorem not_all {w z : Str} {i c : Nat} (h : w.cps.toList[i]? = some c) (n : ¬ c ∈ z.cps.toList) : allIn w z = false := by
  unfold allIn
  rw [List.all_eq_false]
  exact ⟨c, List.mem_of_getElem? h, by simpa using n⟩
theorem yes_all {w z : Str} (h : ∀ (j c : Nat), j < w.cps.toList.length → w.cps.toList[j]? = some c → c ∈ z.cps.toList) : allIn w z = true := by
  unfold allIn
  rw [List.all_eq_true]
  intro c m
  obtain ⟨j, hj, e⟩ := List.mem_iff_getElem.mp m
  exact decide_eq_true (h j c hj (by rw [← e]; exact List.getElem?_eq_getElem hj))
def badN (w : Str) : Bool := !(decide (1 ≤ (w.length : Int)) && decide ((w.length : Int) ≤ 4)) || (!allIn w "0123456789" || (Txt.startswith w "0" && !decide (w = "0")))
def valN (w : Str) : Int := ((digitsVal w.cps.toList : Nat) : Int)
def numV (w : Str) : V := if badN w = true then .non else .int (valN w)
theorem digs_ok : ∀ c ∈ (Str.ofString "0123456789").cps.toList, 48 ≤ c ∧ c ≤ 57 := by decide +kernel
theorem find_ok : ∀ c ∈ (Str.ofString "0123456789").cps.toList, Txt.find "0123456789" ⟨#[c]⟩ = ((c - 48 : Nat) : Int) := by decide +kernel
theorem all_digits {w : Str} (h : allIn w "0123456789" = true) : AllDigits w.cps.toList := fun c m => digs_ok c (by
  unfold allIn at h
  rw [List.all_eq_true] at h
  exact of_decide_eq_true (h c m))
theorem read_ok {w : Str} (h : allIn w "0123456789" = true) (h1 : 1 ≤ (w.length : Int)) (h2 : (w.length : Int) ≤ 4) : intText? w = some (valN w) :=
  intText_digits (all_digits h) (fun e => by
    have : w.length = w.cps.toList.length := (Array.length_toList ..).symm
    rw [e] at this
    simp at this
    omega) (by omega)
theorem starts0 {w : Str} {c : Nat} {cs : List Nat} (h : w.cps.toList = c :: cs) : Txt.startswith w "0" = decide (c = 48) := by
  unfold Txt.startswith
  rw [StrLaws.subAt_eq, h]
  have e : w.length = (c :: cs).length := by rw [← h]; exact (Array.length_toList ..).symm
  rw [e]
  have z : (Str.ofString "0").cps.toList = [48] := by decide +kernel
  have z1 : (Str.ofString "0").length = 1 := by decide +kernel
  rw [z, z1]
  simp [Bool.beq_eq_decide_eq]


theorem one0 {c : Nat} : ((⟨#[c]⟩ : Str) = "0") ↔ c = 48 := by
  have e : (Str.ofString "0") = ⟨#[48]⟩ := by decide +kernel
  rw [e]
  constructor
  · intro h
    have := congrArg (fun z : Str => z.cps.toList) h
    simpa using this
  · rintro rfl; rfl
theorem str_list {w : Str} {l : List Nat} (h : w.cps.toList = l) : w = ⟨l.toArray⟩ := by
  cases w with
  | mk a => simp at h; subst h; simp
theorem val_snoc {l : List Nat} {i c : Nat} (h : l[i]? = some c) : digitsVal (l.take (i + 1)) = digitsVal (l.take i) * 10 + (c - 48) := by
  unfold digitsVal
  rw [List.take_add_one, h, List.foldl_append]
  rfl

/-! ### all_of -/
abbrev s_all_of : Stmt := top 2
abbrev N_all_of : List Str := ["word", "some", "sign"]
theorem sc_all_of : FnScope N_all_of ["word", "some"] (defScope s_all_of) := ⟨rfl, rfl, rfl, by decide +kernel, rfl, by decide +kernel, by decide +kernel⟩
def pr_all_of (K : PySem.W.Frag) : V → V → Hp → VK → XK → Prop := fun a0 a1 H Q E => ∃ w z : Str, a0 = .str w ∧ a1 = .str z ∧ Q (.bl (allIn w z)) H
abbrev sp_all_of (K : PySem.W.Frag) : Sp := Sp2 (pr_all_of K)
theorem ok_all_of {P : Program} {w : World} {K : PySem.W.Frag} {mg : Str → Option Value} {base : Heap} {f : Addr} {fd : FuncData} (F : FunD K "all_of" "all_of" (defArgs s_all_of) (defBody s_all_of) (defScope s_all_of) [] [] f fd) (T : Txt K mg)  : FnOk P w K mg base CX0 1 f fd ["word", "some"] (sp_all_of K) := by
  refine F.ok sc_all_of (fun vs H Q E h => len2 h) (fun cdv A outer s H vs Q E hr h => ?_)
  obtain ⟨a0, a1, rfl, h⟩ := h
  have hu := hu_of hr
  refine ⟨_, PSs.nox ((pss_cons (ps_for PassesOwn.never rfl (pi_X (pv 0)) (pg_name (i := 2) sc_all_of.nd rfl (by first | exact Or.inl rfl | exact Or.inr rfl)) (pss_one (ps_if (pt_cmpR (op_notInX hu) (pv 2) (pv 1) (by rfl)) (pss_one (ps_ret pe_bl)) pss_nil)))
      (pss_one (ps_ret pe_bl)))), ?_⟩
  refine go_start (σ := [some a0, some a1, none]) rfl ?_
  try dsimp only [cxOf, Cx.nox, Cx.wish]
  obtain ⟨w, z, rfl, rfl, hq⟩ := h
  walk_at "*"
  refine go_iS ?_
  refine ForW.str (fun i σ H' => H' = H ∧ (∀ (j c : Nat), j < i → w.cps.toList[j]? = some c → c ∈ z.cps.toList) ∧ ∃ v, σ = [some (.str w), some (.str z), v]) ⟨rfl, by omega, _, rfl⟩ ?_ ?_
  · rintro i c σ H' hi ⟨rfl, hm, v, rfl⟩
    walk_at "*"
    refine go_ninSg ?_
    walk_at "*"
    refine if2 (fun k => ?_) (fun k => ?_)
    · walk_at "*"
      exact ret_V (by rw [not_all hi (by simpa using k)]) hq
    · walk_at "*"
      refine ⟨rfl, fun j d hj hd => ?_, _, rfl⟩
      by_cases e : j = i
      · subst e
        rw [hi] at hd
        obtain rfl := Option.some.inj hd
        simpa using k
      · exact hm j d (by omega) hd
  · rintro σ H' ⟨rfl, hm, v, rfl⟩
    walk_at "*"
    exact ret_V (by rw [yes_all hm]) hq
/-! ### number_in -/
abbrev s_number_in : Stmt := top 3
abbrev N_number_in : List Str := ["word"]
theorem sc_number_in : FnScope N_number_in ["word"] (defScope s_number_in) := ⟨rfl, rfl, rfl, by decide +kernel, rfl, by decide +kernel, by decide +kernel⟩
def pr_number_in (K : PySem.W.Frag) : V → Hp → VK → XK → Prop := fun a0 H Q E => ∃ w : Str, a0 = .str w ∧ w.length ≤ 600 ∧ Q (numV w) H
abbrev sp_number_in (K : PySem.W.Frag) : Sp := Sp1 (pr_number_in K)
theorem ok_number_in {P : Program} {w : World} {K : PySem.W.Frag} {mg : Str → Option Value} {base : Heap} {f : Addr} {fd : FuncData} (F : FunD K "number_in" "number_in" (defArgs s_number_in) (defBody s_number_in) (defScope s_number_in) [] [] f fd) (T : Txt K mg) (d_all_of : Dn P w K mg base CX0 1 "all_of" ["word", "some"] [] (sp_all_of K)) : FnOk P w K mg base CX0 2 f fd ["word"] (sp_number_in K) := by
  refine F.ok sc_number_in (fun vs H Q E h => len1 h) (fun cdv A outer s H vs Q E hr h => ?_)
  obtain ⟨a0, rfl, h⟩ := h
  have hu := hu_of hr
  refine ⟨_, PSs.nox ((pss_cons (ps_if (PW.pt (pw_or (pt_not (pt_chain op_le op_le pe_int (pe_callB call_lenX (by rfl) T.b_len L2.A.boot_len (pa_cons (pv 0) pa_nil)) (pe_glob (v := .int 4) rfl T.g_MOST_FIGURES.choose_spec ⟨_, rfl⟩))) (pw_or1 (pt_not (pt_truX (pe_d d_all_of (hr.mono (by decide)) rfl pass0 (pa_cons (pv 0) (pa_cons pe_str pa_nil)))))))) (pss_one (ps_ret pe_non)) pss_nil)
      (pss_cons (ps_if (PW.pt (pw_and (pt_truX (pe_bm PySem.F.plainAttrs_str PySem.F.slot_str_startswith PySem.F.type_str_startswith mt_startswith (pv 0) (pa_cons pe_str pa_nil))) (pw_and1 (pt_cmpR (op_neX hr.units) (pv 0) pe_str (nomark _))))) (pss_one (ps_ret pe_non)) pss_nil)
      (pss_one (ps_ret (pe_callTy call_intX (by rfl) T.b_int L2.A.boot_int (pa_cons (pv 0) pa_nil))))))), ?_⟩
  refine go_start (σ := [some a0]) rfl ?_
  try dsimp only [cxOf, Cx.nox, Cx.wish]
  obtain ⟨w, rfl, hw, hq⟩ := h
  walk_at "*"
  refine if2 (fun c1 => ?_) (fun c1 => ?_)
  · have e1 := of_decide_eq_true c1
    walk_at "*"
    refine if2 (fun c2 => ?_) (fun c2 => ?_)
    · walk_at "*"
      exact ret_V (by unfold numV; rw [if_pos (by unfold badN; rw [c1]; rw [Bool.not_eq_true'] at c2; rw [c2]; rfl)]) hq
    · walk_at "*"
      rw [Bool.not_eq_false'] at c2
      have e2 := of_decide_eq_true c2
      refine go_sp2 ⟨w, _, rfl, rfl, ?_⟩
      walk_at "*"
      refine if2 (fun c3 => ?_) (fun c3 => ?_)
      · walk_at "*"
        exact ret_V (by unfold numV; rw [if_pos (by unfold badN; rw [c3, Bool.true_or, Bool.or_true])]) hq
      · walk_at "*"
        refine ⟨w, _, rfl, rfl, ?_⟩
        walk_at "*"
        refine if2 (fun c4 => ?_) (fun c4 => ?_)
        · walk_at "*"
          replace c4 : (Txt.startswith w "0" && !decide (w = "0")) = true := by rw [dec_str] at c4; simpa using c4
          exact ret_V (by unfold numV; rw [if_pos (by unfold badN; rw [c4, Bool.or_true, Bool.or_true])]) hq
        · walk_at "*"
          replace c4 : (Txt.startswith w "0" && !decide (w = "0")) = false := by rw [dec_str] at c4; simpa using c4
          refine go_intS (read_ok (by simpa using c3) e1 e2) (by omega) ?_
          exact ret_V (by unfold numV; rw [if_neg (by unfold badN; rw [c1, c2, c3, c4]; decide)]) hq
  · walk_at "*"
    exact ret_V (by unfold numV; rw [if_pos (by unfold badN; rw [c1]; rfl)]) hq
/-! ### _law_number -/
abbrev s__law_number : Stmt := top 7
abbrev N__law_number : List Str := ["_law_word_here", "_law_value", "_law_sign_here"]
theorem sc__law_number : FnScope N__law_number ["_law_word_here"] (defScope s__law_number) := ⟨rfl, rfl, rfl, by decide +kernel, rfl, by decide +kernel, by decide +kernel⟩
def pr__law_number (K : PySem.W.Frag) : V → Hp → VK → XK → Prop := fun a0 H Q E => ∃ w : Str, a0 = .str w ∧ w.length ≤ 600 ∧ Q (.int (if badN w = true then -1 else valN w)) H
abbrev sp__law_number (K : PySem.W.Frag) : Sp := Sp1 (pr__law_number K)
theorem ok__law_number {P : Program} {w : World} {K : PySem.W.Frag} {mg : Str → Option Value} {base : Heap} {f : Addr} {fd : FuncData} (F : FunD K "_law_number" "_law_number" (defArgs s__law_number) (defBody s__law_number) (defScope s__law_number) [] [] f fd) (T : Txt K mg)  : FnOk P w K mg base CX0 1 f fd ["_law_word_here"] (sp__law_number K) := by
  refine F.ok sc__law_number (fun vs H Q E h => len1 h) (fun cdv A outer s H vs Q E hr h => ?_)
  obtain ⟨a0, rfl, h⟩ := h
  have hu := hu_of hr
  refine ⟨_, PSs.nox ((pss_cons (ps_if (PW.pt (pw_or (pt_cmpR op_lt (pe_callB call_lenX (by rfl) T.b_len L2.A.boot_len (pa_cons (pv 0) pa_nil)) pe_int (nomark _)) (pw_or1 (pt_cmpR op_gt (pe_callB call_lenX (by rfl) T.b_len L2.A.boot_len (pa_cons (pv 0) pa_nil)) pe_int (nomark _))))) (pss_one (ps_ret (pe_un un_neg pe_int))) pss_nil)
      (pss_cut (ps_if (PW.pt (pw_and (pt_cmpR op_gt (pe_callB call_lenX (by rfl) T.b_len L2.A.boot_len (pa_cons (pv 0) pa_nil)) pe_int (nomark _)) (pw_and1 (pt_cmpR (op_eqX hr.units) (pe_ix (ix_X hu) (pv 0) pe_int (fun _ _ => rfl)) pe_str (nomark _))))) (pss_one (ps_ret (pe_un un_neg pe_int))) pss_nil)
      (pss_cons (ps_set (i := 1) sc__law_number.nd rfl (by first | exact Or.inl rfl | exact Or.inr rfl) pe_int)
      (pss_cons (ps_for PassesOwn.never rfl (pi_X (pv 0)) (pg_name (i := 2) sc__law_number.nd rfl (by first | exact Or.inl rfl | exact Or.inr rfl)) (pss_cons (ps_if (pt_cmpR (op_notInX hu) (pv 2) pe_str (by rfl)) (pss_one (ps_ret (pe_un un_neg pe_int))) pss_nil)
      (pss_one (ps_set (i := 1) sc__law_number.nd rfl (by first | exact Or.inl rfl | exact Or.inr rfl) (pe_op op_addX (pe_op op_mulX (pv 1) pe_int) (pe_bm PySem.F.plainAttrs_str PySem.F.slot_str_find PySem.F.type_str_find mt_find pe_str (pa_cons (pv 2) pa_nil)))))))
      (pss_one (ps_ret (pv 1)))))))), ?_⟩
  refine go_start (σ := [some a0, none, none]) rfl ?_
  try dsimp only [cxOf, Cx.nox, Cx.wish]
  obtain ⟨w, rfl, hw, hq⟩ := h
  walk_at "*"
  refine if2 (fun c1 => ?_) (fun c1 => ?_)
  · walk_at "*"
    have hb : badN w = true := by
      rw [Bool.or_eq_true] at c1
      unfold badN
      rcases c1 with c | c
      · have c := of_decide_eq_true c
        rw [decide_eq_false (show ¬ 1 ≤ (w.length : Int) by omega)]; rfl
      · have c := of_decide_eq_true c
        rw [decide_eq_false (show ¬ (w.length : Int) ≤ 4 by omega), Bool.and_false]; rfl
    exact ret_V (by rw [if_pos hb]) hq
  rw [Bool.or_eq_false_iff] at c1
  obtain ⟨c1, c2⟩ := c1
  have c1 := of_decide_eq_false c1
  have c2 := of_decide_eq_false c2
  have hl : w.length = w.cps.toList.length := (Array.length_toList ..).symm
  obtain ⟨c, cs, ec⟩ : ∃ c cs, w.cps.toList = c :: cs := by
    cases h : w.cps.toList with
    | nil => rw [h] at hl; simp at hl; omega
    | cons c cs => exact ⟨c, cs, rfl⟩
  have st := starts0 ec
  have d1 : decide (1 ≤ (w.length : Int)) = true := decide_eq_true (by omega)
  have d2 : decide ((w.length : Int) ≤ 4) = true := decide_eq_true (by omega)
  walk_at "*"
  refine go_cut (fun σ' H' => H' = H ∧ σ' = [some (.str w), none, none] ∧ (Txt.startswith w "0" && !decide (w = "0")) = false) ?_ ?_
  · walk_at "*"
    refine if2 (fun c3 => ?_) (fun c3 => ?_)
    · have c3 := of_decide_eq_true c3
      have ne0 : w ≠ "0" := fun e => by rw [e, show (Str.ofString "0").length = 1 by decide +kernel] at c3; omega
      walk_at "*"
      refine go_xS (szl (by omega)) (show atI w.cps.toList 0 = some c by rw [ec]; simp [atI, ixN]) ?_
      walk_at "*"
      rw [dec_str]
      refine if2 (fun c5 => ?_) (fun c5 => ?_)
      · have c5 := one0.mp (of_decide_eq_true c5)
        walk_at "*"
        exact ret_V (by rw [if_pos (by unfold badN; rw [st, decide_eq_true c5, decide_eq_false ne0, Bool.not_false, Bool.and_true, Bool.or_true, Bool.or_true])]) hq
      · have c5 : c ≠ 48 := fun e => of_decide_eq_false c5 (one0.mpr e)
        walk_at "*"
        exact ⟨rfl, rfl, by rw [st, decide_eq_false c5]; rfl⟩
    · have c3 := of_decide_eq_false c3
      walk_at "*"
      refine ⟨rfl, rfl, ?_⟩
      rw [st]
      by_cases e : c = 48
      · have : cs = [] := by
          rw [ec] at hl
          simp at hl
          exact List.eq_nil_of_length_eq_zero (by omega)
        subst this e
        have ew : w = "0" := (str_list ec).trans (one0.mpr rfl)
        rw [decide_eq_true ew]; rfl
      · rw [decide_eq_false e]; rfl
  rintro σ' H' ⟨rfl, rfl, hz⟩
  have hb : badN w = !allIn w "0123456789" := by unfold badN; rw [d1, d2, hz, Bool.or_false]; rfl
  walk_at "*"
  refine go_iS ?_
  refine ForW.str (fun i σ H' => (∀ (j c : Nat), j < i → w.cps.toList[j]? = some c → c ∈ (Str.ofString "0123456789").cps.toList) ∧ Q (.int (if badN w = true then -1 else valN w)) H' ∧ ∃ v, σ = [some (.str w), some (.int ((digitsVal (w.cps.toList.take i) : Nat) : Int)), v]) ⟨by omega, hq, _, rfl⟩ ?_ ?_
  · rintro i c σ H' hi ⟨hm, hq, v, rfl⟩
    walk_at "*"
    refine go_ninSg ?_
    walk_at "*"
    refine if2 (fun k => ?_) (fun k => ?_)
    · walk_at "*"
      exact ret_V (by rw [if_pos (by rw [hb, not_all hi (by simpa using k)]; rfl)]) hq
    · have km : c ∈ (Str.ofString "0123456789").cps.toList := by
        have := k
        rw [Bool.not_eq_false'] at this
        exact of_decide_eq_true this
      have dg := digs_ok c km
      walk_at "*"
      refine ⟨_, _, rfl, rfl, ?_⟩
      rw [find_ok c km]
      walk_at "*"
      refine ⟨fun j d hj hd => ?_, hq, some (.str ⟨#[c]⟩), ?_⟩
      · by_cases e : j = i
        · subst e
          rw [hi] at hd
          obtain rfl := Option.some.inj hd
          exact km
        · exact hm j d (by omega) hd
      · rw [val_snoc hi]
        rw [Int.natCast_add, Int.natCast_mul]
        rfl
  · rintro σ H' ⟨hm, hq, v, rfl⟩
    walk_at "*"
    exact ret_V (by rw [if_neg (by rw [hb, yes_all hm]; decide), List.take_length]; rfl) hq
/-! ### _law_sign -/
abbrev s__law_sign : Stmt := top 8
abbrev N__law_sign : List Str := ["_law_n", "_law_signs"]
theorem sc__law_sign : FnScope N__law_sign ["_law_n"] (defScope s__law_sign) := ⟨rfl, rfl, rfl, by decide +kernel, rfl, by decide +kernel, by decide +kernel⟩
def pr__law_sign (K : PySem.W.Frag) : V → Hp → VK → XK → Prop := fun a0 H Q E => ∃ n : Int, a0 = .int n ∧ ∀ c : Nat, Q (.str ⟨#[c]⟩) H
abbrev sp__law_sign (K : PySem.W.Frag) : Sp := Sp1 (pr__law_sign K)
theorem ok__law_sign {P : Program} {w : World} {K : PySem.W.Frag} {mg : Str → Option Value} {base : Heap} {f : Addr} {fd : FuncData} (F : FunD K "_law_sign" "_law_sign" (defArgs s__law_sign) (defBody s__law_sign) (defScope s__law_sign) [] [] f fd) (T : Txt K mg)  : FnOk P w K mg base CX0 1 f fd ["_law_n"] (sp__law_sign K) := by
  refine F.ok sc__law_sign (fun vs H Q E h => len1 h) (fun cdv A outer s H vs Q E hr h => ?_)
  obtain ⟨a0, rfl, h⟩ := h
  have hu := hu_of hr
  refine ⟨_, PSs.nox ((pss_cons (ps_set (i := 1) sc__law_sign.nd rfl (by first | exact Or.inl rfl | exact Or.inr rfl) pe_str)
      (pss_cons (ps_set (i := 1) sc__law_sign.nd rfl (by first | exact Or.inl rfl | exact Or.inr rfl) (pe_op op_addX (pv 1) pe_str))
      (pss_one (ps_ret (pe_ix (ix_X hu) (pv 1) (pe_op op_mod (pv 0) pe_int) (fun _ _ => rfl))))))), ?_⟩
  refine go_start (σ := [some a0, none]) rfl ?_
  try dsimp only [cxOf, Cx.nox, Cx.wish]
  obtain ⟨n, rfl, hq⟩ := h
  walk_at "*"
  refine go_addS (szl (Nat.le_of_ble_eq_true (by decide +kernel))) ?_
  obtain ⟨c, ec, _⟩ := sign_some (z := (" !#$&'()*+,-./0123456789:;<=>?@ABCDEFGHIJKLMNOPQRSTUVWXYZ" : Str) ++ ("[\\]^_`abcdefghijklmnopqrstuvwxyz{|}~\"" : Str)) (r := n % 94) (Int.emod_nonneg _ (by decide)) (by rw [show ((((" !#$&'()*+,-./0123456789:;<=>?@ABCDEFGHIJKLMNOPQRSTUVWXYZ" : Str) ++ ("[\\]^_`abcdefghijklmnopqrstuvwxyz{|}~\"" : Str)).cps.toList.length : Nat) : Int) = 94 by decide +kernel]; exact Int.emod_lt_of_pos _ (by decide))
  walk_at "*"
  refine go_xS (szl (Nat.le_of_ble_eq_true (by decide +kernel))) ec ?_
  exact hq c

theorem mul0_ok {n : Int} (h0 : 0 ≤ n) (h1 : n < 4) : MulOk "0" n ∧ (Txt.mul "0" n).length ≤ 3 := by
  obtain rfl | rfl | rfl | rfl : n = 0 ∨ n = 1 ∨ n = 2 ∨ n = 3 := by omega
  all_goals unfold MulOk
  all_goals decide +kernel
theorem strI_ok {n : Int} (h0 : 0 ≤ n) (h1 : n < 100000) : (Str.ofString (toString n)).length ≤ 5 ∧ n.natAbs.log2 < 1920 := by
  obtain ⟨k, rfl⟩ : ∃ k : Nat, n = (k : Int) := ⟨n.toNat, by omega⟩
  constructor
  · have e := TL.tl_num k
    have l := TL.numL_len (n := k) (k := 5) (by decide) (by omega)
    rw [TL.len_tl, e]
    exact l
  · show k.log2 < 1920
    by_cases z : k = 0
    · subst z; decide
    · have : k.log2 < 17 := (Nat.log2_lt z).mpr (by omega)
      omega

/-! ### _law_word -/
abbrev s__law_word : Stmt := top 9
abbrev N__law_word : List Str := ["_law_draw", "_law_way", "_law_word_here", "_law_at", "_law_sign_here", "_law_k"]
theorem sc__law_word : FnScope N__law_word ["_law_draw"] (defScope s__law_word) := ⟨rfl, rfl, rfl, by decide +kernel, rfl, by decide +kernel, by decide +kernel⟩
def pr__law_word (K : PySem.W.Frag) : V → Hp → VK → XK → Prop := fun a0 H Q E => ∃ (p c : Addr) (n : Int), a0 = .ref p ∧ Draw H p c n ∧ n ≤ 7000 ∧ ∀ (w : Str) (H' : Hp), w.length ≤ 600 → Kp (fun a => a = p) H H' → Draw H' p c (n + 20) → Q (.str w) H' 
abbrev sp__law_word (K : PySem.W.Frag) : Sp := Sp1 (pr__law_word K)
theorem ok__law_word {P : Program} {w : World} {K : PySem.W.Frag} {mg : Str → Option Value} {base : Heap} {f : Addr} {fd : FuncData} (F : FunD K "_law_word" "_law_word" (defArgs s__law_word) (defBody s__law_word) (defScope s__law_word) [] [] f fd) (T : Txt K mg) (d__law_pick : Dn P w K mg base CX0 1 "_law_pick" ["_law_draw", "_law_many"] [] (sp__law_pick K)) (d__law_sign : Dn P w K mg base CX0 1 "_law_sign" ["_law_n"] [] (sp__law_sign K)) : FnOk P w K mg base CX0 2 f fd ["_law_draw"] (sp__law_word K) := by
  refine F.ok sc__law_word (fun vs H Q E h => len1 h) (fun cdv A outer s H vs Q E hr h => ?_)
  obtain ⟨a0, rfl, h⟩ := h
  have hu := hu_of hr
  refine ⟨_, PSs.nox ((pss_cons (ps_set (i := 1) sc__law_word.nd rfl (by first | exact Or.inl rfl | exact Or.inr rfl) (pe_d d__law_pick (hr.mono (by decide)) rfl pass0 (pa_cons (pv 0) (pa_cons pe_int pa_nil))))
      (pss_cons (ps_set (i := 2) sc__law_word.nd rfl (by first | exact Or.inl rfl | exact Or.inr rfl) (pe_callTy call_strI (by rfl) T.b_str L2.A.boot_str (pa_cons (pe_d d__law_pick (hr.mono (by decide)) rfl pass0 (pa_cons (pv 0) (pa_cons pe_int pa_nil))) pa_nil)))
      (pss_cut (ps_if (pt_cmpR (op_eqX hr.units) (pv 1) pe_int (nomark _)) (pss_one (ps_set (i := 2) sc__law_word.nd rfl (by first | exact Or.inl rfl | exact Or.inr rfl) (pe_bm PySem.F.plainAttrs_str PySem.F.slot_str_join PySem.F.type_str_join mt_join pe_str (pa_cons (pe_lc (own := [("_law_k", 5)]) rfl sc__law_word.nd (pi_range1 rfl T.b_range (pa_cons (pe_op op_addX pe_int (pe_d d__law_pick (hr.mono (by decide)) rfl pass0 (pa_cons (pv 0) (pa_cons pe_int pa_nil)))) pa_nil)) (blkOk_by (N := N__law_word) (sc := defScope s__law_word) (own := [("_law_k", 5)]) (by decide +kernel)) (fun _ _ _ _ _ => (pg_name (i := 5) sc__law_word.nd rfl (by first | exact Or.inl rfl | exact Or.inr rfl))) (fun _ _ _ _ _ => pts_nil) (fun _ _ _ _ _ => (pe_ix (ix_K (K := K) rfl hu) pe_str (pe_d d__law_pick (hr.mono (by decide)) rfl pass0 (pa_cons (pv 0) (pa_cons pe_int pa_nil))) (fun _ _ => rfl)))) pa_nil)))) pss_nil)
      (pss_cut (ps_if (pt_cmpR (op_eqX hr.units) (pv 1) pe_int (nomark _)) (pss_one (ps_set (i := 2) sc__law_word.nd rfl (by first | exact Or.inl rfl | exact Or.inr rfl) (pe_callTy call_strI (by rfl) T.b_str L2.A.boot_str (pa_cons (pe_op op_addX pe_int (pe_d d__law_pick (hr.mono (by decide)) rfl pass0 (pa_cons (pv 0) (pa_cons pe_int pa_nil)))) pa_nil)))) pss_nil)
      (pss_cons (ps_set (i := 1) sc__law_word.nd rfl (by first | exact Or.inl rfl | exact Or.inr rfl) (pe_d d__law_pick (hr.mono (by decide)) rfl pass0 (pa_cons (pv 0) (pa_cons pe_int pa_nil))))
      (pss_cons (ps_set (i := 3) sc__law_word.nd rfl (by first | exact Or.inl rfl | exact Or.inr rfl) (pe_d d__law_pick (hr.mono (by decide)) rfl pass0 (pa_cons (pv 0) (pa_cons (pe_op op_addX (pe_callB call_lenX (by rfl) T.b_len L2.A.boot_len (pa_cons (pv 2) pa_nil)) pe_int) pa_nil))))
      (pss_cons (ps_set (i := 4) sc__law_word.nd rfl (by first | exact Or.inl rfl | exact Or.inr rfl) (pe_d d__law_sign (hr.mono (by decide)) rfl pass0 (pa_cons (pe_d d__law_pick (hr.mono (by decide)) rfl pass0 (pa_cons (pv 0) (pa_cons pe_int pa_nil))) pa_nil)))
      (pss_cut (ps_if (pt_cmpR (op_eqX hr.units) (pe_d d__law_pick (hr.mono (by decide)) rfl pass0 (pa_cons (pv 0) (pa_cons pe_int pa_nil))) pe_int (nomark _)) (pss_one (ps_set (i := 4) sc__law_word.nd rfl (by first | exact Or.inl rfl | exact Or.inr rfl) (pe_ix (ix_X hu) pe_str (pe_d d__law_pick (hr.mono (by decide)) rfl pass0 (pa_cons (pv 0) (pa_cons pe_int pa_nil))) (fun _ _ => rfl)))) pss_nil)
      (pss_cons (ps_if (pt_cmpR (op_eqX hr.units) (pv 1) pe_int (nomark _)) (pss_one (ps_ret (pe_op op_addX (pv 2) (pe_op op_mulX pe_str (pe_d d__law_pick (hr.mono (by decide)) rfl pass0 (pa_cons (pv 0) (pa_cons pe_int pa_nil))))))) pss_nil)
      (pss_cons (ps_if (pt_cmpR (op_eqX hr.units) (pv 1) pe_int (nomark _)) (pss_one (ps_ret (pe_op op_addX (pe_op op_mulX pe_str (pe_d d__law_pick (hr.mono (by decide)) rfl pass0 (pa_cons (pv 0) (pa_cons pe_int pa_nil)))) (pv 2)))) pss_nil)
      (pss_cons (ps_if (pt_cmpR (op_eqX hr.units) (pv 1) pe_int (nomark _)) (pss_one (ps_ret (pe_op op_addX (pe_op op_addX (pe_slice sl_X (pv 2) po_none (po_some (pv 3))) (pv 4)) (pe_slice sl_X (pv 2) (po_some (pv 3)) po_none)))) pss_nil)
      (pss_cons (ps_if (pt_cmpR (op_eqX hr.units) (pv 1) pe_int (nomark _)) (pss_one (ps_ret (pe_op op_addX (pe_op op_addX (pe_slice sl_X (pv 2) po_none (po_some (pv 3))) (pv 4)) (pe_slice sl_X (pv 2) (po_some (pe_op op_addX (pv 3) pe_int)) po_none)))) pss_nil)
      (pss_cons (ps_if (pt_cmpR (op_eqX hr.units) (pv 1) pe_int (nomark _)) (pss_one (ps_ret (pe_op op_addX (pe_slice sl_X (pv 2) po_none (po_some (pv 3))) (pe_slice sl_X (pv 2) (po_some (pe_op op_addX (pv 3) pe_int)) po_none)))) pss_nil)
      (pss_one (ps_ret (pv 2))))))))))))))))), ?_⟩
  refine go_start (σ := [some a0, none, none, none, none, none]) rfl ?_
  try dsimp only [cxOf, Cx.nox, Cx.wish]
  obtain ⟨p, c, n, rfl, dr, hn, hq⟩ := h
  walk_at "*"
  refine go_sp2 ⟨p, c, n, _, rfl, rfl, dr, by omega, by omega, by omega, fun way H1 y0 y1 k1 d1 => ?_⟩
  walk_at "*"
  refine go_sp2 ⟨p, c, _, _, rfl, rfl, d1, by omega, by omega, by omega, fun m H2 m0 m1 k2 d2 => ?_⟩
  obtain ⟨lm, gm⟩ := strI_ok (n := m) (by omega) (by omega)
  walk_at "*"
  refine go_str gm ?_
  walk_at "*"
  refine go_cut (fun σ' H' => ∃ (w : Str) (v : Option V), w.length ≤ 6 ∧ Kp (fun a => a = p) H H' ∧ Draw H' p c (n + 9) ∧ σ' = [some (.ref p), some (.int way), some (.str w), none, none, v]) ?_ ?_
  · walk_at "*"
    refine if2 (fun z => ?_) (fun z => ?_)
    · walk_at "*"
      refine go_sp2 ⟨p, c, _, _, rfl, rfl, d2, by omega, by omega, by omega, fun q H3 q0 q1 k3 d3 => ?_⟩
      obtain ⟨m', hm'⟩ : ∃ m' : Nat, 1 + q = (m' : Int) := ⟨(1 + q).toNat, by omega⟩
      walk_at "*"
      rw [hm', Int.toNat_natCast]
      refine LcW.it walk_range (fun D i ys H' => ∃ zs : List Str, ys = zs.map V.str ∧ (∀ z ∈ zs, z.length = 1) ∧ zs.length = i ∧ Kp (fun a => a = p) H3 H' ∧ Draw H' p c (n + 3 + i)) (by omega) (fun D hD => ⟨[], rfl, fun _ z => (by cases z), rfl, Kp.same (same_new hD), (d3.same (same_new hD)).le (by omega)⟩) (fun _ _ _ _ _ _ _ _ => trivial) ?_ ?_
      · rintro D i x ys H1 H2 hD hi hl e ⟨zs, rfl, z1, zl, k, d⟩ ⟨rfl, rfl⟩ yes no hy hn
        refine go_name rfl ⟨rfl, ?_⟩
        walk_at "*"
        refine go_sp2 ⟨p, c, _, _, rfl, rfl, d, by omega, by omega, by omega, fun r H4 r0 r1 k4 d4 => ?_⟩
        obtain ⟨s, es, ms⟩ := sign_some (z := "0123456789") r0 (by exact r1)
        walk_at "*"
        refine go_xS (szl (Nat.le_of_ble_eq_true rfl)) es ?_
        have Dp := d3.ne hD
        refine hy _ _ (k4 _ _ e Dp) ⟨zs ++ [⟨#[s]⟩], by rw [List.map_append]; rfl, ?_, by rw [List.length_append, zl]; rfl, kp_mut (k.trans k4) hD, (d4.mut Dp (d3.nec hD)).le (by omega)⟩
        intro z mz
        rcases List.mem_append.mp mz with mz | mz
        · exact z1 z mz
        · obtain rfl := List.mem_singleton.mp mz
          rfl
      rintro D ys H1 hD e hl ⟨zs, rfl, z1, zl, k, d⟩
      walk_at "*"
      refine ⟨"", D, zs, rfl, rfl, .inl (.of e), ?_, ?_⟩
      · rw [show zs.map (·.length) = List.replicate zs.length 1 by
          apply List.eq_replicate_iff.mpr
          exact ⟨List.length_map .., fun b mb => by obtain ⟨z, mz, rfl⟩ := List.mem_map.mp mb; exact z1 z mz⟩, List.sum_replicate_nat, show ("" : Str).length = 0 from rfl]
        omega
      walk_at "*"
      exact ⟨_, _, by rw [PySem.W.KT.join_ones _ z1, zl]; omega, ((k1.trans k2).trans k3).trans k, d.le (by omega), rfl⟩
    · walk_at "*"
      exact ⟨_, _, by omega, k1.trans k2, d2.le (by omega), rfl⟩
  rintro σ' H3 ⟨w, v, lw, k3, d3, rfl⟩
  walk_at "*"
  refine go_cut (fun σ' H' => ∃ (w : Str), w.length ≤ 6 ∧ Kp (fun a => a = p) H H' ∧ Draw H' p c (n + 10) ∧ σ' = [some (.ref p), some (.int way), some (.str w), none, none, v]) ?_ ?_
  · walk_at "*"
    refine if2 (fun z => ?_) (fun z => ?_)
    · walk_at "*"
      refine go_sp2 ⟨p, c, _, _, rfl, rfl, d3, by omega, by omega, by omega, fun q H4 q0 q1 k4 d4 => ?_⟩
      obtain ⟨lq, gq⟩ := strI_ok (n := 9997 + q) (by omega) (by omega)
      walk_at "*"
      refine go_str gq ?_
      walk_at "*"
      exact ⟨_, by omega, k3.trans k4, d4.le (by omega), rfl⟩
    · walk_at "*"
      exact ⟨_, by omega, k3, d3.le (by omega), rfl⟩
  rintro σ' H4 ⟨w, lw, k4, d4, rfl⟩
  walk_at "*"
  refine go_sp2 ⟨p, c, _, _, rfl, rfl, d4, by omega, by omega, by omega, fun way H5 y0 y1 k5 d5 => ?_⟩
  walk_at "*"
  refine go_sp2 ⟨p, c, _, _, rfl, rfl, d5, by omega, by omega, by omega, fun at_ H6 x0 x1 k6 d6 => ?_⟩
  walk_at "*"
  refine go_sp2 ⟨p, c, _, _, rfl, rfl, d6, by omega, by omega, by omega, fun sg H7 g0 g1 k7 d7 => ?_⟩
  have k7' := ((k4.trans k5).trans k6).trans k7
  walk_at "*"
  refine go_sp1 ⟨sg, rfl, fun sc => ?_⟩
  walk_at "*"
  refine go_cut (fun σ' H' => ∃ sc : Nat, Kp (fun a => a = p) H H' ∧ Draw H' p c (n + 15) ∧ σ' = [some (.ref p), some (.int way), some (.str w), some (.int at_), some (.str ⟨#[sc]⟩), v]) ?_ ?_
  · walk_at "*"
    refine go_sp2 ⟨p, c, _, _, rfl, rfl, d7, by omega, by omega, by omega, fun q H8 q0 q1 k8 d8 => ?_⟩
    walk_at "*"
    refine if2 (fun z => ?_) (fun z => ?_)
    · walk_at "*"
      refine go_sp2 ⟨p, c, _, _, rfl, rfl, d8, by omega, by omega, by omega, fun q H9 q0 q1 k9 d9 => ?_⟩
      obtain ⟨s, es, ms⟩ := sign_some (z := "+-_ .") q0 (by exact q1)
      walk_at "*"
      refine go_xS (szl (Nat.le_of_ble_eq_true rfl)) es ?_
      walk_at "*"
      exact ⟨_, (k7'.trans k8).trans k9, d9.le (by omega), rfl⟩
    · walk_at "*"
      exact ⟨_, k7'.trans k8, d8.le (by omega), rfl⟩
  rintro σ' H8 ⟨sc, k8, d8, rfl⟩
  walk_at "*"
  refine if2 (fun z => ?_) (fun z => ?_)
  · walk_at "*"
    refine go_sp2 ⟨p, c, _, _, rfl, rfl, d8, by omega, by omega, by omega, fun q H9 q0 q1 k9 d9 => ?_⟩
    obtain ⟨ok, l3⟩ := mul0_ok q0 q1
    walk_at "*"
    refine go_mulS ok ?_
    walk_at "*"
    refine go_addS (szl (by omega)) ?_
    walk_at "*"
    exact hq _ _ (by rw [len_app]; omega) (k8.trans k9) (d9.le (by omega))
  walk_at "*"
  refine if2 (fun z => ?_) (fun z => ?_)
  · walk_at "*"
    refine go_sp2 ⟨p, c, _, _, rfl, rfl, d8, by omega, by omega, by omega, fun q H9 q0 q1 k9 d9 => ?_⟩
    obtain ⟨ok, l3⟩ := mul0_ok q0 q1
    walk_at "*"
    refine go_mulS ok ?_
    walk_at "*"
    refine go_addS (szl (by omega)) ?_
    walk_at "*"
    exact hq _ _ (by rw [len_app]; omega) (k8.trans k9) (d9.le (by omega))
  have b1 := cutS_le (z := w) (lo := none) (hi := some at_)
  have b2 := cutS_le (z := w) (lo := some at_) (hi := none)
  have b3 := cutS_le (z := w) (lo := some (at_ + 1)) (hi := none)
  walk_at "*"
  refine if2 (fun z => ?_) (fun z => ?_)
  · walk_at "*"
    refine go_slS (szl (by omega)) ?_
    walk_at "*"
    refine go_addS (by rw [len_one]; exact szl (by omega)) ?_
    walk_at "*"
    refine go_slS (szl (by omega)) ?_
    walk_at "*"
    refine go_addS (by rw [len_app, len_one]; exact szl (by omega)) ?_
    walk_at "*"
    exact hq _ _ (by rw [len_app, len_app, len_one]; omega) k8 (d8.le (by omega))
  walk_at "*"
  refine if2 (fun z => ?_) (fun z => ?_)
  · walk_at "*"
    refine go_slS (szl (by omega)) ?_
    walk_at "*"
    refine go_addS (by rw [len_one]; exact szl (by omega)) ?_
    walk_at "*"
    refine go_slS (szl (by omega)) ?_
    walk_at "*"
    refine go_addS (by rw [len_app, len_one]; exact szl (by omega)) ?_
    walk_at "*"
    exact hq _ _ (by rw [len_app, len_app, len_one]; omega) k8 (d8.le (by omega))
  walk_at "*"
  refine if2 (fun z => ?_) (fun z => ?_)
  · walk_at "*"
    refine go_slS (szl (by omega)) ?_
    walk_at "*"
    refine go_slS (szl (by omega)) ?_
    walk_at "*"
    refine go_addS (szl (by omega)) ?_
    walk_at "*"
    exact hq _ _ (by rw [len_app]; omega) k8 (d8.le (by omega))
  walk_at "*"
  exact hq _ _ (by omega) k8 (d8.le (by omega))
/-! ### law -/
abbrev s_law : Stmt := top 10
abbrev N_law : List Str := ["_law_script", "_law_draw", "_law_k", "_law_word_here", "_law_found", "_law_due"]
theorem sc_law : FnScope N_law ["_law_script"] (defScope s_law) := ⟨rfl, rfl, rfl, by decide +kernel, rfl, by decide +kernel, by decide +kernel⟩
def pr_law (K : PySem.W.Frag) : V → Hp → VK → XK → Prop := fun a0 H Q E => ∃ (a : Addr) (ns : List Int), a0 = .ref a ∧ SqL K H a (ns.map V.int) ∧ ns.length ≤ 63 ∧ ∀ H', Q (.bl true) H' 
abbrev sp_law (K : PySem.W.Frag) : Sp := Sp1 (pr_law K)
theorem ok_law {P : Program} {w : World} {K : PySem.W.Frag} {mg : Str → Option Value} {base : Heap} {f : Addr} {fd : FuncData} (F : FunD K "law" "law" (defArgs s_law) (defBody s_law) (defScope s_law) [] [] f fd) (T : Txt K mg) (d__law_drawn : Dn P w K mg base CX0 1 "_law_drawn" ["_law_script"] [] (sp__law_drawn K)) (d__law_number : Dn P w K mg base CX0 1 "_law_number" ["_law_word_here"] [] (sp__law_number K)) (d__law_pick : Dn P w K mg base CX0 1 "_law_pick" ["_law_draw", "_law_many"] [] (sp__law_pick K)) (d__law_word : Dn P w K mg base CX0 2 "_law_word" ["_law_draw"] [] (sp__law_word K)) (d_number_in : Dn P w K mg base CX0 2 "number_in" ["word"] [] (sp_number_in K)) : FnOk P w K mg base CX0 3 f fd ["_law_script"] (sp_law K) := by
  refine F.ok sc_law (fun vs H Q E h => len1 h) (fun cdv A outer s H vs Q E hr h => ?_)
  obtain ⟨a0, rfl, h⟩ := h
  have hu := hu_of hr
  refine ⟨_, PSs.nox ((pss_cons (ps_set (i := 1) sc_law.nd rfl (by first | exact Or.inl rfl | exact Or.inr rfl) (pe_d d__law_drawn (hr.mono (by decide)) rfl pass0 (pa_cons (pv 0) pa_nil)))
      (pss_cons (ps_for PassesOwn.never rfl (pi_range1 rfl T.b_range (pa_cons (pe_op op_addX pe_int (pe_d d__law_pick (hr.mono (by decide)) rfl pass0 (pa_cons (pv 1) (pa_cons pe_int pa_nil)))) pa_nil)) (pg_name (i := 2) sc_law.nd rfl (by first | exact Or.inl rfl | exact Or.inr rfl)) (pss_cons (ps_set (i := 3) sc_law.nd rfl (by first | exact Or.inl rfl | exact Or.inr rfl) (pe_d d__law_word (hr.mono (by decide)) rfl pass0 (pa_cons (pv 1) pa_nil)))
      (pss_cons (ps_set (i := 4) sc_law.nd rfl (by first | exact Or.inl rfl | exact Or.inr rfl) (pe_d d_number_in (hr.mono (by decide)) rfl pass0 (pa_cons (pv 3) pa_nil)))
      (pss_cons (ps_set (i := 5) sc_law.nd rfl (by first | exact Or.inl rfl | exact Or.inr rfl) (pe_d d__law_number (hr.mono (by decide)) rfl pass0 (pa_cons (pv 3) pa_nil)))
      (pss_one (ps_if (pt_cmpR op_lt (pv 5) pe_int (nomark _)) (pss_one (ps_if (pt_cmpR op_isNotX (pv 4) pe_non (nomark _)) (pss_one (ps_ret pe_bl)) pss_nil)) (pss_one (ps_if (PW.pt (pw_or (pt_not (pt_truX (pe_callB call_isiX (by rfl) T.b_isinstance L2.A.boot_isinstance (pa_cons (pv 4) (pa_cons (pe_bltn (v := .ty "int") (by rfl) T.b_int L2.A.boot_int rfl) pa_nil))))) (pw_or (pt_truX (pe_callB call_isiX (by rfl) T.b_isinstance L2.A.boot_isinstance (pa_cons (pv 4) (pa_cons (pe_bltn (v := .ty "bool") (by rfl) T.b_bool L2.A.boot_bool rfl) pa_nil)))) (pw_or1 (pt_cmpR (op_neX hr.units) (pv 4) (pv 5) (nomark _)))))) (pss_one (ps_ret pe_bl)) pss_nil))))))))
      (pss_one (ps_ret pe_bl))))), ?_⟩
  refine go_start (σ := [some a0, none, none, none, none, none]) rfl ?_
  try dsimp only [cxOf, Cx.nox, Cx.wish]
  obtain ⟨a, ns, rfl, hS, hn, hq⟩ := h
  walk_at "*"
  refine go_sp1 ⟨a, ns, rfl, hS, hn, fun p c H1 hp hc s1 d1 => ?_⟩
  walk_at "*"
  refine go_sp2 ⟨p, c, 0, _, rfl, rfl, d1, by omega, by omega, by omega, fun r H2 r0 r1 k2 d2 => ?_⟩
  walk_at "*"
  refine ForW.range (fun i σ H' => Draw H' p c (1 + 20 * i) ∧ ∃ v2 v3 v4 v5, σ = [some (.ref a), some (.ref p), v2, v3, v4, v5]) ⟨d2.le (by omega), _, _, _, _, rfl⟩ ?_ ?_
  · rintro i σ H3 hi ⟨d3, v2, v3, v4, v5, rfl⟩
    walk_at "*"
    refine go_sp1 ⟨p, c, _, rfl, d3, by omega, fun w H4 lw k4 d4 => ?_⟩
    walk_at "*"
    refine go_sp1 ⟨w, rfl, lw, ?_⟩
    walk_at "*"
    refine go_sp1 ⟨w, rfl, lw, ?_⟩
    unfold numV
    have v0 : 0 ≤ valN w := Int.natCast_nonneg _
    cases hb : badN w with
    | true =>
      rw [if_pos rfl, if_pos rfl]
      walk_at "*"
      refine ite_T (by decide) ?_
      walk_at "*"
      refine ite_F (by decide) ?_
      walk_at "*"
      exact ⟨d4.le (by omega), _, _, _, _, rfl⟩
    | false =>
      rw [if_neg (by decide), if_neg (by decide)]
      walk_at "*"
      refine ite_F (decide_eq_false (by omega)) ?_
      walk_at "*"
      refine ite_F (by simp) ?_
      walk_at "*"
      exact ⟨d4.le (by omega), _, _, _, _, rfl⟩
  · rintro σ H3 ⟨d3, v2, v3, v4, v5, rfl⟩
    walk_at "*"
    exact hq _
/-! ### the head -/
def D__law_drawn : He.DefD := ⟨("_law_drawn", none), "_law_drawn", "_law_drawn", defArgs s__law_drawn, defBody s__law_drawn, defScope s__law_drawn, [], []⟩
def D__law_pick : He.DefD := ⟨("_law_pick", none), "_law_pick", "_law_pick", defArgs s__law_pick, defBody s__law_pick, defScope s__law_pick, [], []⟩
def D_all_of : He.DefD := ⟨("all_of", none), "all_of", "all_of", defArgs s_all_of, defBody s_all_of, defScope s_all_of, [], []⟩
def D_number_in : He.DefD := ⟨("number_in", none), "number_in", "number_in", defArgs s_number_in, defBody s_number_in, defScope s_number_in, [], []⟩
def D__law_number : He.DefD := ⟨("_law_number", none), "_law_number", "_law_number", defArgs s__law_number, defBody s__law_number, defScope s__law_number, [], []⟩
def D__law_sign : He.DefD := ⟨("_law_sign", none), "_law_sign", "_law_sign", defArgs s__law_sign, defBody s__law_sign, defScope s__law_sign, [], []⟩
def D__law_word : He.DefD := ⟨("_law_word", none), "_law_word", "_law_word", defArgs s__law_word, defBody s__law_word, defScope s__law_word, [], []⟩
def D_law : He.DefD := ⟨("law", none), "law", "law", defArgs s_law, defBody s_law, defScope s_law, [], []⟩
def fn : List He.DefD := [D__law_drawn, D__law_pick, D_all_of, D_number_in, D__law_number, D__law_sign, D__law_word, D_law]
def fa : List He.Fa := [.glo "_law_drawn", .glo "_law_pick", .glo "all_of", .glo "number_in", .glo "_law_number", .glo "_law_sign", .glo "_law_word", .glo "law", .free "bool", .free "int", .free "isinstance", .free "len", .free "list", .free "range", .free "str", .int "MOST_FIGURES" 4]
abbrev R : PySem.W.OpenRow := PySem.W.OpenLaw.row PySem.Challenge.rw_inningsbook_k02_numbers
abbrev hk : PySem.W.Hook := He.hookD 4 fa fn
def ob (s : PySem.W.SharedT) : He.AlD := He.obsDG 4 fa fn (HandSHeadRun.getT s)
theorem ob_eq (s : PySem.W.SharedT) : ob s = hk.obs s.abs := He.obsDG_eq (HandSHeadRun.getT_eq s)
abbrev loose : List Str := (["MOST_FIGURES", "all_of", "number_in", "_law_drawn", "_law_pick", "_law_number", "_law_sign", "_law_word"] : List Str)
theorem run (w : World) : HandSHeadRun.RunEq R (PySem.W.view R.prog [10]) hk ob 3000 loose w := by
  intro os
  kernel_rfl
theorem facts {P : Program} {w : World} {K : PySem.W.Frag} {h : Heap} {mg : Str → Option Value} {f : Addr} (X : K.In h) (G : h.Ns mainGlobals mg) (hfa : mg ("law" : Str) = some (.ref f)) (c : He.SaysD fa fn K) :
    ∃ fd : FuncData, (∀ (s : Shared) (v : Value), BindsTo s fd ⟨[v], []⟩ [("_law_script", v)]) ∧ ∀ base : Heap, K.In base → base.Ns mainGlobals mg → FnOk P w K mg base CX0 3 f fd ["_law_script"] (sp_law K) := by
  have T : Txt K mg := ⟨He.free_ok X G (c.fact 8 (f := .free "bool") rfl), He.free_ok X G (c.fact 9 (f := .free "int") rfl), He.free_ok X G (c.fact 10 (f := .free "isinstance") rfl), He.free_ok X G (c.fact 11 (f := .free "len") rfl), He.free_ok X G (c.fact 12 (f := .free "list") rfl), He.free_ok X G (c.fact 13 (f := .free "range") rfl), He.free_ok X G (c.fact 14 (f := .free "str") rfl), He.int_ok X G (c.fact 15 (f := .int "MOST_FIGURES" 4) rfl)⟩
  obtain ⟨fd__law_drawn, F__law_drawn⟩ := c.def_ 0 (d := D__law_drawn) rfl
  obtain ⟨fd__law_pick, F__law_pick⟩ := c.def_ 1 (d := D__law_pick) rfl
  obtain ⟨fd_all_of, F_all_of⟩ := c.def_ 2 (d := D_all_of) rfl
  obtain ⟨fd_number_in, F_number_in⟩ := c.def_ 3 (d := D_number_in) rfl
  obtain ⟨fd__law_number, F__law_number⟩ := c.def_ 4 (d := D__law_number) rfl
  obtain ⟨fd__law_sign, F__law_sign⟩ := c.def_ 5 (d := D__law_sign) rfl
  obtain ⟨fd__law_word, F__law_word⟩ := c.def_ 6 (d := D__law_word) rfl
  obtain ⟨fd_law, F_law⟩ := c.def_ 7 (d := D_law) rfl
  have e := hfa.symm.trans (He.glo_ok X G (c.fact 7 (f := .glo "law") rfl))
  cases e
  have b := FunD.bindsA (ps := ["_law_script"]) F_law fun _ _ _ _ _ _ us hl => match us, hl with | [_], _ => rfl
  refine ⟨fd_law, fun s v => b s [v] rfl, fun base hb hn => ?_⟩
  have d__law_drawn : Dn P w K mg base CX0 1 "_law_drawn" ["_law_script"] [] (sp__law_drawn K) := ⟨⟨_, _, [], ok__law_drawn F__law_drawn T , He.glo_ok X G (c.fact 0 (f := .glo "_law_drawn") rfl), F__law_drawn.kp, FunD.bindsN F__law_drawn fun _ _ _ _ _ _ us hl => match us, hl with | [_], _ => rfl, .nil⟩⟩
  have d__law_pick : Dn P w K mg base CX0 1 "_law_pick" ["_law_draw", "_law_many"] [] (sp__law_pick K) := ⟨⟨_, _, [], ok__law_pick F__law_pick T , He.glo_ok X G (c.fact 1 (f := .glo "_law_pick") rfl), F__law_pick.kp, FunD.bindsN F__law_pick fun _ _ _ _ _ _ us hl => match us, hl with | [_, _], _ => rfl, .nil⟩⟩
  have d_all_of : Dn P w K mg base CX0 1 "all_of" ["word", "some"] [] (sp_all_of K) := ⟨⟨_, _, [], ok_all_of F_all_of T , He.glo_ok X G (c.fact 2 (f := .glo "all_of") rfl), F_all_of.kp, FunD.bindsN F_all_of fun _ _ _ _ _ _ us hl => match us, hl with | [_, _], _ => rfl, .nil⟩⟩
  have d_number_in : Dn P w K mg base CX0 2 "number_in" ["word"] [] (sp_number_in K) := ⟨⟨_, _, [], ok_number_in F_number_in T d_all_of, He.glo_ok X G (c.fact 3 (f := .glo "number_in") rfl), F_number_in.kp, FunD.bindsN F_number_in fun _ _ _ _ _ _ us hl => match us, hl with | [_], _ => rfl, .nil⟩⟩
  have d__law_number : Dn P w K mg base CX0 1 "_law_number" ["_law_word_here"] [] (sp__law_number K) := ⟨⟨_, _, [], ok__law_number F__law_number T , He.glo_ok X G (c.fact 4 (f := .glo "_law_number") rfl), F__law_number.kp, FunD.bindsN F__law_number fun _ _ _ _ _ _ us hl => match us, hl with | [_], _ => rfl, .nil⟩⟩
  have d__law_sign : Dn P w K mg base CX0 1 "_law_sign" ["_law_n"] [] (sp__law_sign K) := ⟨⟨_, _, [], ok__law_sign F__law_sign T , He.glo_ok X G (c.fact 5 (f := .glo "_law_sign") rfl), F__law_sign.kp, FunD.bindsN F__law_sign fun _ _ _ _ _ _ us hl => match us, hl with | [_], _ => rfl, .nil⟩⟩
  have d__law_word : Dn P w K mg base CX0 2 "_law_word" ["_law_draw"] [] (sp__law_word K) := ⟨⟨_, _, [], ok__law_word F__law_word T d__law_pick d__law_sign, He.glo_ok X G (c.fact 6 (f := .glo "_law_word") rfl), F__law_word.kp, FunD.bindsN F__law_word fun _ _ _ _ _ _ us hl => match us, hl with | [_], _ => rfl, .nil⟩⟩
  exact ok_law F_law T d__law_drawn d__law_number d__law_pick d__law_word d_number_in
end L2.Toy
open PySem PySem.W PySem.Calls PyProof.Rows
set_option maxRecDepth 100000 in
set_option maxHeartbeats 0 in
theorem PySem.Challenge.cw_inningsbook_k02_numbers_holds : PySem.Challenge.rw_inningsbook_k02_numbers.Holds := by
  w_on; o_law
  refine HandSHeadRun.head_any (r := OpenLaw.row PySem.Challenge.rw_inningsbook_k02_numbers) (q := view (OpenLaw.row PySem.Challenge.rw_inningsbook_k02_numbers).prog [10]) (H := L2.Toy.hk) (ob := L2.Toy.ob) (M := 3000) (loose := L2.Toy.loose) (d := HandSHeadRun.topDef (OpenLaw.row PySem.Challenge.rw_inningsbook_k02_numbers).prog 10) (kwd := []) L2.Toy.ob_eq
    (by kernel_rfl) (fun s => by kernel_rfl) L2.Toy.run (by kernel_rfl) (by kernel_rfl) (by kernel_rfl) (by rfl) (by first | assumption | decide +kernel) (by decide +kernel) ⟨rfl, rfl, rfl, rfl, rfl, by decide +kernel⟩ ?hw ?hc
  case hw => w_witness2
  case hc =>
    refine L2.walk_ofE (l := PySem.Challenge.rw_inningsbook_k02_numbers) (n := 63) (k := 3) (x := "_law_script") (CX := L2.CX0) rfl (by decide) (by kernel_rfl) ⟨rfl, by decide, by decide⟩ ?F (fun _ _ _ _ z => z)
    intro w mg fa h Y G hmg0
    obtain ⟨K, KX, c⟩ := Y
    have hmg : mg ("law" : PySem.Str) = some (.ref fa) := by
      have e : (HandSHeadRun.topDef (OpenLaw.row PySem.Challenge.rw_inningsbook_k02_numbers).prog 10).name = ("law" : PySem.Str) := by kernel_rfl
      rw [← e]
      exact hmg0
    obtain ⟨fd, hb, hF⟩ := L2.Toy.facts (P := (PySem.Challenge.rw_inningsbook_k02_numbers).prog) (w := w) KX G hmg c
    exact ⟨K, fd, L2.Toy.sp_law K, KX, hb, fun H a ns hl _ hS => ⟨L2.V.ref a, rfl, a, ns, rfl, hS, hl, fun _ => rfl⟩, hF⟩
#print axioms PySem.Challenge.cw_inningsbook_k02_numbers_holds

