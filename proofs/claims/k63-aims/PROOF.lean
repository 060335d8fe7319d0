import PyProof.Rows.All
import Wide.All
import OpenK.AllK
import Wide.FinOn
import KE.KStateDown
import Lean
import HandS.ForMost
import HandS.Steps
import HandS.IsInst
import HandS.More
import HandS.Exc
import HandS.WordsExc
import HandS.Defaults
import HandS.Head0
import HandS.Head1
import HandS.Head2
import HandS.HeadEnd
import HandS.HeadHook1
import HandS.HeadHook2
import PySem.Challenge.RW_inningsbook_k63_aims
set_option Elab.async false
set_option linter.all false
set_option maxRecDepth 100000
set_option maxHeartbeats 4000000

namespace L2.A
open PySem PySem.Spec PyProof.Rows
/-! a layer of our own over HandS: defs by name, operators for every kind of value, one step a construct -/
/-- what is at fp may change, the rest stays -/
def Kp (fp : Addr → Prop) (H H' : Hp) : Prop := ∀ a o, H a = some o → ¬ fp a → H' a = some o
theorem Kp.same {fp : Addr → Prop} {H H' : Hp} (h : Same H H') : Kp fp H H' := fun a o e _ => h a o e
theorem Kp.refl {fp : Addr → Prop} {H : Hp} : Kp fp H H := fun _ _ e _ => e
theorem Kp.trans {fp : Addr → Prop} {H H1 H2 : Hp} (a : Kp fp H H1) (b : Kp fp H1 H2) : Kp fp H H2 := fun x o e n => b x o (a x o e n) n
theorem Kp.upd {H : Hp} {p : Addr} {o : HO} : Kp (fun a => a = p) H (upd H p o) := fun a u e n => by rw [upd_ne n]; exact e
theorem same_new {H : Hp} {p : Addr} {o : HO} (h : H p = none) : Same H (upd H p o) := fun a u e => by rw [upd_ne (ne_of_none e h)]; exact e
theorem same_new2 {H H' : Hp} {p : Addr} {o : HO} (s : Same H H') (h : H' p = none) : Same H (upd H' p o) := s.trans (same_new h)
/-- an object that H does not know may change -/
theorem same_mut {H H' : Hp} {p : Addr} {o : HO} (s : Same H H') (h : H p = none) : Same H (upd H' p o) := fun a u e => by rw [upd_ne (ne_of_none e h)]; exact s a u e
theorem same_kp {H H1 H2 : Hp} {p : Addr} (s : Same H H1) (k : Kp (fun a => a = p) H1 H2) (h : H p = none) : Same H H2 := fun a o e => k a o (s a o e) (ne_of_none e h)
theorem ge_same {H H' : Hp} {a : Addr} {o : HO} (s : Same H H') (h : H a = some o) : H' a = some o := s a o h

section
variable {P : Program} {w : World} {K : PySem.W.Frag} {mg : Str → Option Value} {base : Heap} {CX : CXT} {k : Nat}
/-- a def of the top by its name -/
structure Dn (P : Program) (w : World) (K : PySem.W.Frag) (mg : Str → Option Value) (base : Heap) (CX : CXT) (k : Nat) (x : Str) (ps : List Str) (dvs : List V) (sp : Sp) : Prop where
  ex : ∃ (f : Addr) (fd : FuncData) (ds : List Value), FnOk P w K mg base CX k f fd ps sp ∧ mg x = some (.ref f) ∧ PySem.W.keepIn K (.ref f) = true ∧ Binds K fd ps ds ∧ Vals dvs ds
end
section
variable {X : Cx} {CX : CXT} {k : Nat} {ps : List Str} {dvs : List V} {sp : Sp} {E : XK} {x : Str} {p pos : Pos} {e : Expr} {es : List Expr} {t : TA}
theorem pe_d (D : Dn X.prog X.w X.K X.mg X.base CX k x ps dvs sp) (hr : Room k X.A) (hg : Gl X x) (hx : Passes CX X E) (ha : PA X (e :: es) t) (hdb : (x == ("__debug__" : Str)) = false := by decide)
    (he : starEach (e :: es) X.env = (false, eval e X.env) :: starEach es X.env := by rfl) (hpl : (backTo pos (starEach es X.env)).any (·.1) = false := by rfl) : PE X (.Call (.Name x p) (e :: es) [] pos) (tCall sp dvs E t) := by
  obtain ⟨f, fd, ds, F, hm, hk, hb, hv⟩ := D.ex
  exact pe_call F hr hg hm hk hb hv hx ha hdb he hpl
theorem pe_d0 (D : Dn X.prog X.w X.K X.mg X.base CX k x ps dvs sp) (hr : Room k X.A) (hg : Gl X x) (hx : Passes CX X E) (hdb : (x == ("__debug__" : Str)) = false := by decide) : PE X (.Call (.Name x p) [] [] pos) (tCall sp dvs E tNil) := by
  obtain ⟨f, fd, ds, F, hm, hk, hb, hv⟩ := D.ex
  exact pe_call0 F hr hg hm hk hb hv hx hdb
end

/-! ### steps -/
section
variable {t u : TS} {D : Ends} {σ σ' : St} {H : Hp} {te ta tb tc : TE} {g : TG} {v : V} {i : Nat} {Q : VK} {r r' : R2} {tt tu : TT} {QB : Bool → Hp → Prop} {QS : St → Hp → Prop} {ts : TA} {QL : List V → Hp → Prop} {K : PySem.W.Frag}
theorem go_seq (h : t { D with nx := u D } σ H) : tSeq t u D σ H := h
theorem go_asg (h : te σ H fun x H1 => g x σ H1 D.nx) : tAsg te g D σ H := h
theorem go_name (e : σ.set i (some v) = σ') (h : QS σ' H) : gName i v σ H QS := by show QS (σ.set i (some v)) H; rw [e]; exact h
theorem go_var (e : σ[i]? = some (some v)) (h : Q v H) : tVar i σ H Q := ⟨v, e, h⟩
theorem go_c (h : Q v H) : tC v σ H Q := h
theorem go_op (h : ta σ H fun x H1 => tb σ H1 fun y H2 => r x y H2 Q) : tOp r ta tb σ H Q := h
theorem go_un {ru : V → Hp → VK → Prop} (h : ta σ H fun x H1 => ru x H1 Q) : tUn ru ta σ H Q := h
theorem go_I0 {f : Int → Int → V} {a b : Int} (h : Q (f a b) H) : rI0 f (.int a) (.int b) H Q := ⟨a, b, rfl, rfl, h⟩
theorem go_I {C : Int → Int → Prop} {f : Int → Int → V} {a b : Int} (c : C a b) (h : Q (f a b) H) : rI C f (.int a) (.int b) H Q := ⟨a, b, rfl, rfl, c, h⟩
theorem go_U {f : Int → V} {a : Int} (h : Q (f a) H) : rU f (.int a) H Q := ⟨a, rfl, h⟩
theorem go_ret (h : te σ H D.rt) : tRet te D σ H := h
theorem go_retN (h : D.rt .non H) : tRetN D σ H := h
theorem go_next (h : D.nx σ H) : tNext D σ H := h
theorem go_brk (h : D.bk σ H) : tBreak D σ H := h
theorem go_ct (h : D.ct σ H) : tCont D σ H := h
theorem go_if (h : tt σ H fun b H1 => if b = true then t D σ H1 else u D σ H1) : tIfS tt t u D σ H := h
theorem go_ifx (h : tt σ H fun c H1 => if c = true then ta σ H1 Q else tb σ H1 Q) : tIf tt ta tb σ H Q := h
def KB (x : V) (H : Hp) (QB : Bool → Hp → Prop) : Prop := ∃ k, x = .bl k ∧ QB k H
theorem go_test (h : te σ H fun x H' => KB x H' QB) : tTest te σ H QB := h
theorem go_B (h : te σ H fun x H' => KB x H' QB) : tB te σ H QB := h
theorem go_bl {b : Bool} (h : QB b H) : KB (.bl b) H QB := ⟨b, rfl, h⟩
theorem go_not (h : tt σ H fun c H1 => QB (!c) H1) : tNot tt σ H QB := h
theorem go_and (h : tt σ H fun c H1 => if c = true then tu σ H1 QB else QB false H1) : tAnd tt tu σ H QB := h
theorem go_or (h : tt σ H fun c H1 => if c = true then QB true H1 else tu σ H1 QB) : tOr tt tu σ H QB := h
theorem go_andV (h : ta σ H fun x H1 => KB x H1 fun c H1 => if c = true then tb σ H1 Q else Q (.bl false) H1) : tAndV ta tb σ H Q := h
theorem go_orV (h : ta σ H fun x H1 => KB x H1 fun c H1 => if c = true then Q (.bl true) H1 else tb σ H1 Q) : tOrV ta tb σ H Q := h
theorem go_notV (h : ta σ H fun x H1 => KB x H1 fun c H1 => Q (.bl (!c)) H1) : tNotV ta σ H Q := h
theorem go_drop (h : te σ H fun _ H1 => D.nx σ H1) : tDrop te D σ H := h
theorem go_nil (h : QL [] H) : tNil σ H QL := h
theorem go_cons (h : te σ H fun x H1 => ts σ H1 fun xs H2 => QL (x :: xs) H2) : tCons te ts σ H QL := h
def NewO (o : HO) (H : Hp) (Q : VK) : Prop := ∀ p, H p = none → Q (.ref p) (upd H p o)
def NewT (xs : List V) (H : Hp) (Q : VK) : Prop := xs.length ≤ sizeLine ∧ NewO (.tup xs) H Q
def NewL (xs : List V) (H : Hp) (Q : VK) : Prop := xs.length ≤ sizeLine ∧ NewO (.lst xs) H Q
theorem go_tup (h : ts σ H fun xs H1 => NewT xs H1 Q) : tTup ts σ H Q := h
theorem go_lst (h : ts σ H fun xs H1 => NewL xs H1 Q) : tLst ts σ H Q := h
theorem go_newT {xs : List V} (e : Nat.ble xs.length 1000 = true) (h : NewO (.tup xs) H Q) : NewT xs H Q := ⟨Nat.le_trans (Nat.le_of_ble_eq_true e) (by decide), h⟩
theorem go_newL {xs : List V} (e : Nat.ble xs.length 1000 = true) (h : NewO (.lst xs) H Q) : NewL xs H Q := ⟨Nat.le_trans (Nat.le_of_ble_eq_true e) (by decide), h⟩
theorem go_CB {rc : List V → Hp → VK → Prop} (h : ts σ H fun vs H1 => rc vs H1 Q) : tCB rc ts σ H Q := h
theorem go_call {sp : Sp} {dvs : List V} {E : XK} (h : ts σ H fun vs H1 => sp (vs ++ dvs) H1 Q E) : tCall sp dvs E ts σ H Q := h
theorem go_eq {x y : V} (e : scal x y = true) (h : Q (.bl (decide (x = y))) H) : rEq x y H Q := ⟨e, h⟩
theorem go_ne {x y : V} (e : scal x y = true) (h : Q (.bl (!decide (x = y))) H) : rNe x y H Q := ⟨e, h⟩
theorem go_chain (h : ta σ H fun x H1 => tb σ H1 fun y H2 => r x y H2 fun z H3 => KB z H3 fun k H3 => (if k = true then tc σ H3 fun w' H4 => r' y w' H4 Q else Q (.bl false) H3)) : tChain r r' ta tb tc σ H Q := h
theorem go_gtup {n : Nat} {tg : TGs} {a : Addr} {xs : List V} (hs : SqT K H a xs) (hl : xs.length = n) (h : tg xs σ H QS) : gTup K n tg (.ref a) σ H QS := ⟨a, xs, rfl, hs, hl, h⟩
theorem go_gcons {tg : TGs} {vs : List V} (h : g v σ H fun σ' H' => tg vs σ' H' QS) : gCons g tg (v :: vs) σ H QS := ⟨v, vs, rfl, h⟩
theorem go_gnil (h : QS σ H) : gNil [] σ H QS := ⟨rfl, h⟩
theorem go_nx {a : St → Hp → Prop} {b : VK} {c d : St → Hp → Prop} (h : a σ H) : Ends.nx ⟨a, b, c, d⟩ σ H := h
theorem go_rt {a : St → Hp → Prop} {b : VK} {c d : St → Hp → Prop} (h : b v H) : Ends.rt ⟨a, b, c, d⟩ v H := h
theorem go_bk {a : St → Hp → Prop} {b : VK} {c d : St → Hp → Prop} (h : c σ H) : Ends.bk ⟨a, b, c, d⟩ σ H := h
theorem go_ctx {a : St → Hp → Prop} {b : VK} {c d : St → Hp → Prop} (h : d σ H) : Ends.ct ⟨a, b, c, d⟩ σ H := h
theorem go_sub {to ti : TE} {ps : TSet} (h : to σ H fun o H1 => ti σ H1 fun i H2 => ps o i v H2 fun H3 => QS σ H3) : gSub to ti ps v σ H QS := h
theorem iteNT {A B : Prop} (h : B) : if (!true) = true then A else B := by rw [if_neg (by decide)]; exact h
theorem iteNF {A B : Prop} (h : A) : if (!false) = true then A else B := by rw [if_pos (by decide)]; exact h
theorem if2 {b : Bool} {A B : Prop} (h1 : b = true → A) (h2 : b = false → B) : if b = true then A else B := by
  cases b with
  | true => exact h1 rfl
  | false => exact h2 rfl
end
end L2.A

namespace L2.A
open PySem PySem.Spec PyProof.Rows
/-! ### operators for every kind of value -/
theorem boot_len : bootBuiltins "len" = some (.builtin "len") := by decide +kernel
theorem boot_isinstance : bootBuiltins "isinstance" = some (.builtin "isinstance") := by decide +kernel
theorem boot_sum : bootBuiltins "sum" = some (.builtin "sum") := by decide +kernel
theorem boot_max : bootBuiltins "max" = some (.builtin "max") := by decide +kernel
theorem boot_min : bootBuiltins "min" = some (.builtin "min") := by decide +kernel
theorem boot_all : bootBuiltins "all" = some (.builtin "all") := by decide +kernel
theorem boot_any : bootBuiltins "any" = some (.builtin "any") := by decide +kernel
theorem boot_abs : bootBuiltins "abs" = some (.builtin "abs") := by decide +kernel
theorem boot_sorted : bootBuiltins "sorted" = some (.builtin "sorted") := by decide +kernel
theorem boot_int : bootBuiltins "int" = some (.type "int") := by decide +kernel
theorem boot_str : bootBuiltins "str" = some (.type "str") := by decide +kernel
theorem boot_bool : bootBuiltins "bool" = some (.type "bool") := by decide +kernel
theorem boot_list : bootBuiltins "list" = some (.type "list") := by decide +kernel
theorem boot_tuple : bootBuiltins "tuple" = some (.type "tuple") := by decide +kernel
theorem boot_dict : bootBuiltins "dict" = some (.type "dict") := by decide +kernel
theorem boot_set : bootBuiltins "set" = some (.type "set") := by decide +kernel
theorem boot_ValueError : bootBuiltins "ValueError" = some (.type "ValueError") := by decide +kernel
section
variable {X : Cx} {K : PySem.W.Frag} {H : Hp} {Q : VK} {v : V}
abbrev rStrA : R2 := fun x y H Q => ∃ i j, x = .str i ∧ y = .str j ∧ i.length + j.length ≤ sizeLine ∧ Q (.str (i ++ j)) H
abbrev rIntB : R2 := fun x y H Q => ∃ i k, x = .int i ∧ y = .bl k ∧ Q (.int (i + b2i k)) H
def rAddX (K : PySem.W.Frag) : R2 := fun x y H Q => rI0 (fun i j => .int (i + j)) x y H Q ∨ rStrA x y H Q ∨ rCat x y H Q ∨ rCatT K x y H Q ∨ rIntB x y H Q
theorem op_addX : OpR X (binaryOp .Add) (rAddX X.K) := op_add.or (op_add_str.or (op_cat.or (op_catT.or op_add_ib)))
theorem go_addI {a b : Int} (h : Q (.int (a + b)) H) : rAddX K (.int a) (.int b) H Q := .inl ⟨a, b, rfl, rfl, h⟩
theorem go_addS {a b : Str} (z : a.length + b.length ≤ sizeLine) (h : Q (.str (a ++ b)) H) : rAddX K (.str a) (.str b) H Q := .inr (.inl ⟨a, b, rfl, rfl, z, h⟩)
theorem go_addB {a : Int} {b : Bool} (h : Q (.int (a + b2i b)) H) : rAddX K (.int a) (.bl b) H Q := .inr (.inr (.inr (.inr ⟨a, b, rfl, rfl, h⟩)))
theorem go_addL {p q : Addr} {xs ys : List V} (hp : H p = some (.lst xs)) (hq : H q = some (.lst ys)) (z : xs.length + ys.length ≤ sizeLine) (h : NewO (.lst (xs ++ ys)) H Q) : rAddX K (.ref p) (.ref q) H Q :=
  .inr (.inr (.inl ⟨p, q, xs, ys, rfl, rfl, hp, hq, z, h⟩))
theorem go_addT {p q : Addr} {x : V} {xs : List V} {y : V} {ys : List V} (hp : SqT K H p (x :: xs)) (hq : SqT K H q (y :: ys)) (z : (x :: xs).length + (y :: ys).length ≤ sizeLine) (h : NewO (.tup (x :: xs ++ y :: ys)) H Q) : rAddX K (.ref p) (.ref q) H Q :=
  .inr (.inr (.inr (.inl ⟨p, q, _, _, rfl, rfl, hp, hq, by simp, z, (fun e => nomatch e), fun _ => h⟩)))
/-- whole numbers, or a list so many times -/
def rMulX : R2 := fun x y H Q => rI CMul (fun i j => .int (i * j)) x y H Q ∨ rRep x y H Q
theorem op_mulX : OpR X (binaryOp .Mult) rMulX := op_mul.or op_rep
theorem go_mulI {a b : Int} (c : CMul a b) (h : Q (.int (a * b)) H) : rMulX (.int a) (.int b) H Q := .inl ⟨a, b, rfl, rfl, c, h⟩
/-- == -/
def rEqX (K : PySem.W.Frag) : R2 := fun x y H Q => rEq x y H Q ∨ rEqD K x y H Q
def rNeX (K : PySem.W.Frag) : R2 := fun x y H Q => rNe x y H Q ∨ rNeD K x y H Q
theorem op_eqX (hu : X.A.units + 64 < cLine) : OpR X (compareOp .Eq) (rEqX X.K) := op_eq.or (op_eqD hu)
theorem op_neX (hu : X.A.units + 64 < cLine) : OpR X (compareOp .NotEq) (rNeX X.K) := op_ne.or (op_neD hu)
theorem go_eqS {x y : V} (e : scal x y = true) (h : Q (.bl (decide (x = y))) H) : rEqX K x y H Q := .inl ⟨e, h⟩
theorem go_neS {x y : V} (e : scal x y = true) (h : Q (.bl (!decide (x = y))) H) : rNeX K x y H Q := .inl ⟨e, h⟩
/-- in -/
theorem op_in_d (hu : X.A.units + 1 < cLine) : OpR X (compareOp .In) (fun y x H Q => ∃ a o, x = .ref a ∧ DGet H a y o ∧ Q (.bl o.isSome) H) := by
  intro pins s σ H y x iv u Q I ry rx h
  obtain ⟨a, o, rfl, g, q⟩ := h
  cases rx
  exact d_in hu I g ry fun s3 I3 => ⟨.bl o.isSome, H, I3, rfl, q⟩
theorem op_notIn_d (hu : X.A.units + 1 < cLine) : OpR X (compareOp .NotIn) (fun y x H Q => ∃ a o, x = .ref a ∧ DGet H a y o ∧ Q (.bl (!o.isSome)) H) := by
  intro pins s σ H y x iv u Q I ry rx h
  obtain ⟨a, o, rfl, g, q⟩ := h
  cases rx
  exact d_notIn hu I g ry fun s3 I3 => ⟨.bl (!o.isSome), H, I3, rfl, q⟩
abbrev rInD : R2 := fun y x H Q => ∃ a o, x = .ref a ∧ DGet H a y o ∧ Q (.bl o.isSome) H
abbrev rNotInD : R2 := fun y x H Q => ∃ a o, x = .ref a ∧ DGet H a y o ∧ Q (.bl (!o.isSome)) H
def rInX (K : PySem.W.Frag) : R2 := fun x y H Q => rIn K false x y H Q ∨ rInS x y H Q ∨ rInD x y H Q
def rNotInX (K : PySem.W.Frag) : R2 := fun x y H Q => rIn K true x y H Q ∨ rNotInS x y H Q ∨ rNotInD x y H Q
theorem op_inX (hu : X.A.units + 1 < cLine) : OpR X (compareOp .In) (rInX X.K) := op_in_seq.or (op_inS.or (op_in_d hu))
theorem op_notInX (hu : X.A.units + 1 < cLine) : OpR X (compareOp .NotIn) (rNotInX X.K) := op_notIn_seq.or (op_notInS.or (op_notIn_d hu))
theorem go_inL {x : V} {p : Addr} {xs : List V} (hp : SqL K H p xs) (fx : flatV x = true) (fs : xs.all flatV = true) (h : Q (.bl (inV x xs)) H) : rInX K x (.ref p) H Q := .inl ⟨p, xs, rfl, .inl hp, fx, fs, h⟩
theorem go_inT {x : V} {p : Addr} {xs : List V} (hp : SqT K H p xs) (fx : flatV x = true) (fs : xs.all flatV = true) (h : Q (.bl (inV x xs)) H) : rInX K x (.ref p) H Q := .inl ⟨p, xs, rfl, .inr hp, fx, fs, h⟩
theorem go_inSg {c : Nat} {z : Str} (h : Q (.bl (decide (c ∈ z.cps.toList))) H) : rInX K (.str ⟨#[c]⟩) (.str z) H Q := .inr (.inl ⟨c, z, rfl, rfl, h⟩)
theorem go_inK {p : Addr} {kvs : List (Key × V)} (k : Key) (hp : H p = some (.dK kvs)) (h : Q (.bl (valV kvs k).isSome) H) : rInX K (kV k) (.ref p) H Q := .inr (.inr ⟨p, _, rfl, DGet.k hp, h⟩)
theorem go_ninL {x : V} {p : Addr} {xs : List V} (hp : SqL K H p xs) (fx : flatV x = true) (fs : xs.all flatV = true) (h : Q (.bl (!inV x xs)) H) : rNotInX K x (.ref p) H Q := .inl ⟨p, xs, rfl, .inl hp, fx, fs, h⟩
theorem go_ninT {x : V} {p : Addr} {xs : List V} (hp : SqT K H p xs) (fx : flatV x = true) (fs : xs.all flatV = true) (h : Q (.bl (!inV x xs)) H) : rNotInX K x (.ref p) H Q := .inl ⟨p, xs, rfl, .inr hp, fx, fs, h⟩
theorem go_ninSg {c : Nat} {z : Str} (h : Q (.bl (!decide (c ∈ z.cps.toList))) H) : rNotInX K (.str ⟨#[c]⟩) (.str z) H Q := .inr (.inl ⟨c, z, rfl, rfl, h⟩)
theorem go_ninK {p : Addr} {kvs : List (Key × V)} (k : Key) (hp : H p = some (.dK kvs)) (h : Q (.bl (!(valV kvs k).isSome)) H) : rNotInX K (kV k) (.ref p) H Q := .inr (.inr ⟨p, _, rfl, DGet.k hp, h⟩)
/-- is: None alone, or a truth -/
def rIsX : R2 := fun x y H Q => rIsN x y H Q
def rIsNotX : R2 := fun x y H Q => rNotN x y H Q
theorem op_isX : OpR X (compareOp .Is) rIsX := op_isN1
theorem op_isNotX : OpR X (compareOp .IsNot) rIsNotX := op_notN1
theorem go_isN {x : V} (h : Q (.bl (decide (x = .non))) H) : rIsX x .non H Q := ⟨rfl, h⟩
theorem go_notN {x : V} (h : Q (.bl (!decide (x = .non))) H) : rIsNotX x .non H Q := ⟨rfl, h⟩
/-- o[i] -/
abbrev rIxD : R2 := fun x y H Q => ∃ a v, x = .ref a ∧ DGet H a y (some v) ∧ Q v H
theorem ix_dict (hu : X.A.units + 1 < cLine) : IxR X rIxD := by
  intro value slice pins s σ H x y v u Q I rx ry h hs
  obtain ⟨a, z, rfl, g, q⟩ := h
  cases rx
  exact tail_any (dict_typeIs I g) PySem.F.slot_dict_getitem.lookup (d_getItem hu I g ry fun w' s3 I3 rw' => ⟨z, H, I3, rw', q⟩) hs
def rIxX (K : PySem.W.Frag) : R2 := fun x y H Q => rIxL K x y H Q ∨ rIxT K x y H Q ∨ rIxS x y H Q ∨ rIxD x y H Q
theorem ix_X (hu : X.A.units + 1 < cLine) : IxR X (rIxX X.K) := ix_list.or (ix_tup.or (ix_str.or (ix_dict hu)))
theorem go_xL {p : Addr} {xs : List V} {j : Int} (hp : SqL K H p xs) (ha : atI xs j = some v) (h : Q v H) : rIxX K (.ref p) (.int j) H Q := .inl ⟨p, xs, j, v, rfl, rfl, hp, ha, h⟩
theorem go_xT {p : Addr} {xs : List V} {j : Int} (hp : SqT K H p xs) (ha : atI xs j = some v) (h : Q v H) : rIxX K (.ref p) (.int j) H Q := .inr (.inl ⟨p, xs, j, v, rfl, rfl, hp, ha, h⟩)
theorem go_xS {z : Str} {j : Int} {c : Nat} (hz : z.length ≤ sizeLine) (ha : atI z.cps.toList j = some c) (h : Q (.str ⟨#[c]⟩) H) : rIxX K (.str z) (.int j) H Q := .inr (.inr (.inl ⟨z, j, c, rfl, rfl, hz, ha, h⟩))
theorem go_xK {p : Addr} {kvs : List (Key × V)} (k : Key) (hp : H p = some (.dK kvs)) (hv : valV kvs k = some v) (h : Q v H) : rIxX K (.ref p) (kV k) H Q := .inr (.inr (.inr ⟨p, v, rfl, hv ▸ DGet.k hp, h⟩))
theorem go_xKs {p : Addr} {kvs : List (Key × V)} {z : Str} (hp : H p = some (.dK kvs)) (hv : valV kvs (Sum.inr z) = some v) (h : Q v H) : rIxX K (.ref p) (.str z) H Q := go_xK (Sum.inr z) hp hv h
/-- o[i] = e -/
theorem PSet.or {r r' : TSet} (h : PSet X r) (h' : PSet X r') : PSet X (fun o i v H Q => r o i v H Q ∨ r' o i v H Q) := by
  intro pins s σ H o i v ov iv u Q I ro ri rv q
  rcases q with q | q
  · exact h pins s σ H o i v ov iv u Q I ro ri rv q
  · exact h' pins s σ H o i v ov iv u Q I ro ri rv q
abbrev rSetD : TSet := fun o i v H Q => ∃ a H4, o = .ref a ∧ DPut H a i v H4 ∧ Q H4
theorem set_dict (hu : X.A.units + 1 < cLine) : PSet X rSetD := by
  intro pins s σ H o i v ov iv u Q I ro ri rv h
  obtain ⟨a, H4, rfl, g, q⟩ := h
  cases ro
  exact d_setItem hu I g ri rv fun s4 I4 => ⟨H4, I4, q⟩
def rSetX : TSet := fun o i v H Q => rSetL o i v H Q ∨ rSetD o i v H Q
theorem set_X (hu : X.A.units + 1 < cLine) : PSet X rSetX := PSet.or set_list (set_dict hu)
variable {QH : Hp → Prop}
theorem go_sL {l : Addr} {xs : List V} {j : Int} {n : Nat} (hl : H l = some (.lst xs)) (hj : ixN xs.length j = some n) (h : QH (upd H l (.lst (xs.set n v)))) : rSetX (.ref l) (.int j) v H QH := .inl ⟨l, xs, j, n, rfl, rfl, hl, hj, h⟩
theorem go_sK {p : Addr} {kvs : List (Key × V)} (k : Key) (hp : H p = some (.dK kvs)) (z : kvs.length < sizeLine) (h : QH (upd H p (.dK (putK kvs k v)))) : rSetX (.ref p) (kV k) v H QH := .inr ⟨p, _, rfl, DPut.k hp z, h⟩
theorem go_sKs {p : Addr} {kvs : List (Key × V)} {x : Str} (hp : H p = some (.dK kvs)) (z : kvs.length < sizeLine) (h : QH (upd H p (.dK (putK kvs (Sum.inr x) v)))) : rSetX (.ref p) (.str x) v H QH := go_sK (Sum.inr x) hp z h
/-- slices -/
abbrev rSlS : V → Option Int → Option Int → Hp → VK → Prop := fun x lo hi H Q => ∃ z, x = .str z ∧ z.length ≤ sizeLine ∧ Q (.str (cutS z lo hi)) H
def rSlX (K : PySem.W.Frag) : V → Option Int → Option Int → Hp → VK → Prop := fun x lo hi H Q => rSlL K x lo hi H Q ∨ rSlT K x lo hi H Q ∨ rSlS x lo hi H Q
theorem sl_X : SlR X (rSlX X.K) := sl_list.or (sl_tup.or sl_str)
/-- len, int, isinstance, truth -/
abbrev rLenD : List V → Hp → VK → Prop := fun xs H Q => ∃ a kvs, xs = [V.ref a] ∧ H a = some (.dK kvs) ∧ Q (.int kvs.length) H
abbrev rLenV (K : PySem.W.Frag) : List V → Hp → VK → Prop := fun xs H Q => ∃ x n, xs = [x] ∧ LenV K x H n ∧ Q (.int n) H
def rLenX (K : PySem.W.Frag) : List V → Hp → VK → Prop := fun xs H Q => rLenV K xs H Q ∨ rLenD xs H Q
theorem call_lenX : CallR X (.builtin "len") (rLenX X.K) := call_len.or call_lenD
theorem go_lenL {p : Addr} {xs : List V} (hp : SqL K H p xs) (h : Q (.int xs.length) H) : rLenX K [.ref p] H Q := .inl ⟨_, _, rfl, .inl ⟨xs, hp, rfl⟩, h⟩
theorem go_lenT {p : Addr} {xs : List V} (hp : SqT K H p xs) (h : Q (.int xs.length) H) : rLenX K [.ref p] H Q := .inl ⟨_, _, rfl, .inr ⟨xs, hp, rfl⟩, h⟩
theorem go_lenS {z : Str} (hz : z.length ≤ sizeLine) (h : Q (.int z.length) H) : rLenX K [.str z] H Q := .inl ⟨.str z, z.length, rfl, ⟨hz, rfl⟩, h⟩
theorem go_lenD {p : Addr} {kvs : List (Key × V)} (hp : H p = some (.dK kvs)) (h : Q (.int kvs.length) H) : rLenX K [.ref p] H Q := .inr ⟨p, kvs, rfl, hp, h⟩
abbrev rInt1 : List V → Hp → VK → Prop := fun xs H Q => (∃ i, xs = [.int i] ∧ Q (.int i) H) ∨ ∃ k, xs = [.bl k] ∧ Q (.int (if k then 1 else 0)) H
abbrev rIntS : List V → Hp → VK → Prop := fun xs H Q => ∃ a n, xs = [.str a] ∧ PySem.intText? a = some n ∧ a.length ≤ 640 ∧ Q (.int n) H
def rIntX : List V → Hp → VK → Prop := fun xs H Q => rInt1 xs H Q ∨ rIntS xs H Q
theorem call_intX : CallR X (.type "int") rIntX := call_int1.or call_int_str
theorem go_intI {i : Int} (h : Q (.int i) H) : rIntX [.int i] H Q := .inl (.inl ⟨i, rfl, h⟩)
theorem go_intB {k : Bool} (h : Q (.int (if k then 1 else 0)) H) : rIntX [.bl k] H Q := .inl (.inr ⟨k, rfl, h⟩)
theorem go_intS {a : Str} {n : Int} (e : PySem.intText? a = some n) (z : a.length ≤ 640) (h : Q (.int n) H) : rIntX [.str a] H Q := .inr ⟨a, n, rfl, e, z, h⟩
def rIsiX (K : PySem.W.Frag) : List V → Hp → VK → Prop := fun xs H Q => rIsi K xs H Q ∨ rIsiT K xs H Q
theorem call_isiX : CallR X (.builtin "isinstance") (rIsiX X.K) := call_isi.or call_isiT
theorem go_isi {x : V} {T U : String} {b : Bool} (ty : TyX K H x (.type U)) (e : kitB U T = some b) (h : Q (.bl b) H) : rIsiX K [x, .ty T] H Q := .inl ⟨x, .ty T, .type U, .type T, b, rfl, .ty T, ty, kit_ty e, h⟩
def rListO (K : PySem.W.Frag) : List V → Hp → VK → Prop := fun xs H Q => ∃ p ys, xs = [.ref p] ∧ (SqL K H p ys ∨ SqT K H p ys) ∧ ∀ l, H l = none → Q (.ref l) (upd H l (.lst ys))
theorem call_listO : CallR X (.type "list") (rListO X.K) := call_list_of
def rTupO (K : PySem.W.Frag) : List V → Hp → VK → Prop := fun xs H Q => ∃ p ys, xs = [.ref p] ∧ ((SqL K H p ys ∧ ∀ l, H l = none → Q (.ref l) (upd H l (.tup ys))) ∨ (SqT K H p ys ∧ Q (.ref p) H))
theorem call_tupO : CallR X (.type "tuple") (rTupO X.K) := call_tuple_of
def rMx2 : List V → Hp → VK → Prop := fun xs H Q => ∃ i j, xs = [.int i, .int j] ∧ Q (.int (if j > i then j else i)) H
def rMn2 : List V → Hp → VK → Prop := fun xs H Q => ∃ i j, xs = [.int i, .int j] ∧ Q (.int (if j < i then j else i)) H
theorem call_mx2 (hc : X.calm = true) : CallR X (.builtin "max") rMx2 := call_max2 hc
theorem call_mn2 (hc : X.calm = true) : CallR X (.builtin "min") rMn2 := call_min2 hc
def rAbsI : List V → Hp → VK → Prop := fun xs H Q => ∃ i, xs = [.int i] ∧ Q (.int (if i < 0 then -i else i)) H
theorem call_absI : CallR X (.builtin "abs") rAbsI := call_abs
def rStrI : List V → Hp → VK → Prop := fun xs H Q => ∃ i, xs = [.int i] ∧ i.natAbs.log2 < 1920 ∧ Q (.str (toString i)) H
theorem call_strI : CallR X (.type "str") rStrI := call_str_int
theorem go_listL {l : Addr} {xs : List V} (hS : SqL K H l xs) (h : NewO (.lst xs) H Q) : rListO K [V.ref l] H Q := ⟨l, xs, rfl, .inl hS, h⟩
theorem go_listT {l : Addr} {xs : List V} (hS : SqT K H l xs) (h : NewO (.lst xs) H Q) : rListO K [V.ref l] H Q := ⟨l, xs, rfl, .inr hS, h⟩
theorem go_tupL {l : Addr} {xs : List V} (hS : SqL K H l xs) (h : NewO (.tup xs) H Q) : rTupO K [V.ref l] H Q := ⟨l, xs, rfl, .inl ⟨hS, h⟩⟩
theorem go_tupT {l : Addr} {xs : List V} (hS : SqT K H l xs) (h : Q (.ref l) H) : rTupO K [V.ref l] H Q := ⟨l, xs, rfl, .inr ⟨hS, h⟩⟩
theorem go_max {a b : Int} (h : Q (.int (max a b)) H) : rMx2 [V.int a, V.int b] H Q := ⟨a, b, rfl, by
  have e : (if b > a then b else a) = max a b := by
    by_cases c : b > a
    · rw [if_pos c]; omega
    · rw [if_neg c]; omega
  rw [e]; exact h⟩
theorem go_min {a b : Int} (h : Q (.int (min a b)) H) : rMn2 [V.int a, V.int b] H Q := ⟨a, b, rfl, by
  have e : (if b < a then b else a) = min a b := by
    by_cases c : b < a
    · rw [if_pos c]; omega
    · rw [if_neg c]; omega
  rw [e]; exact h⟩
theorem go_abs {a : Int} (h : Q (.int a.natAbs) H) : rAbsI [V.int a] H Q := ⟨a, rfl, by
  have e : (if a < 0 then -a else a) = (a.natAbs : Int) := by
    by_cases c : a < 0
    · rw [if_pos c]; omega
    · rw [if_neg c]; omega
  rw [e]; exact h⟩
theorem go_str {a : Int} (z : a.natAbs.log2 < 1920) (h : Q (.str (toString a)) H) : rStrI [V.int a] H Q := ⟨a, rfl, z, h⟩
def tTruX (K : PySem.W.Frag) (te : TE) : TT := fun σ H Q => te σ H fun x H' => ∃ k, TruV K x H' k ∧ Q k H'
theorem pt_truX {a : Expr} {ta : TE} (ha : PE X a ta) (he : ∀ whole, isTrue a X.env whole = (do let v ← whole; standAt a.pos; holding [v] (truthy v)) := by intro _; rfl) : PT X a (tTruX X.K ta) := pt_truth ha he
def KT (K : PySem.W.Frag) (x : V) (H : Hp) (QB : Bool → Hp → Prop) : Prop := ∃ k, TruV K x H k ∧ QB k H
theorem go_tru {te : TE} {σ : St} {QB : Bool → Hp → Prop} (h : te σ H fun x H' => KT K x H' QB) : tTruX K te σ H QB := h
theorem go_truB {b : Bool} {QB : Bool → Hp → Prop} (h : QB b H) : KT K (.bl b) H QB := ⟨b, rfl, h⟩
theorem go_truI {i : Int} {QB : Bool → Hp → Prop} (h : QB (i != 0) H) : KT K (.int i) H QB := ⟨_, rfl, h⟩
theorem go_truN {QB : Bool → Hp → Prop} (h : QB false H) : KT K .non H QB := ⟨_, rfl, h⟩
theorem kit_ii : kitB "int" "int" = some true := by decide +kernel
theorem kit_ib : kitB "int" "bool" = some false := by decide +kernel
theorem kit_bb : kitB "bool" "bool" = some true := by decide +kernel
theorem kit_bi : kitB "bool" "int" = some true := by decide +kernel
theorem kit_ss : kitB "str" "str" = some true := by decide +kernel
theorem kit_nb : kitB "NoneType" "bool" = some false := by decide +kernel
theorem kit_ni : kitB "NoneType" "int" = some false := by decide +kernel
theorem kit_ns : kitB "NoneType" "str" = some false := by decide +kernel
theorem kit_nt : kitB "NoneType" "tuple" = some false := by decide +kernel
theorem kit_is : kitB "int" "str" = some false := by decide +kernel
theorem kit_si : kitB "str" "int" = some false := by decide +kernel
theorem kit_sb : kitB "str" "bool" = some false := by decide +kernel
theorem kit_tt : kitB "tuple" "tuple" = some true := by decide +kernel
theorem kit_ll : kitB "list" "list" = some true := by decide +kernel
theorem kit_tl : kitB "tuple" "list" = some false := by decide +kernel
theorem kit_lt : kitB "list" "tuple" = some false := by decide +kernel
theorem kit_bs : kitB "bool" "str" = some false := by decide +kernel
/-- a list or a tuple that is walked -/
def IX (K : PySem.W.Frag) (x : V) (H1 : Hp) (R : It → Hp → Prop) : Prop := (∃ a, x = .ref a ∧ (∃ xs, SqL K H1 a xs) ∧ R (Itl K a) H1) ∨ (∃ a, x = .ref a ∧ (∃ xs, SqT K H1 a xs) ∧ R (Itt K a) H1) ∨ (∃ z, x = .str z ∧ R (Its z) H1)
def iX (K : PySem.W.Frag) (tl : TE) : TI := fun σ H R => tl σ H fun x H1 => (∃ a, x = .ref a ∧ (∃ xs, SqL K H1 a xs) ∧ R (Itl K a) H1) ∨ (∃ a, x = .ref a ∧ (∃ xs, SqT K H1 a xs) ∧ R (Itt K a) H1) ∨ (∃ z, x = .str z ∧ R (Its z) H1)
theorem pi_X {tg l : Expr} {tl : TE} (hl : PE X l tl) : PI X tg l (iX X.K tl) := by
  refine ⟨fun pins s σ H R I h => ?_⟩
  refine thn (hl.run pins s σ H _ I h) fun v s1 ⟨x, H1, I1, r1, q1⟩ => ?_
  rcases q1 with ⟨a, ex, ⟨xs, hq⟩, q⟩ | ⟨a, ex, ⟨xs, hq⟩, q⟩ | ⟨z, ex, q⟩
  · subst ex
    cases r1
    obtain ⟨its, rv, p, hz⟩ := I1.list hq
    refine wpAny_pyIter_list p.isList ?_
    refine ⟨s1.heap.objs.size, [s1.heap.objs.size], _, _, H1, rfl, I1.kept (t' := s1.toks) fun b o e => Heap.get?_push_of_some _ e, turn_list a _, ⟨_, Heap.get?_push_size _ rfl, rfl, rfl⟩, fun b hb => ?_, q⟩
    have e : b = s1.heap.objs.size := by simpa using hb
    subst e
    exact I1.fpOk (Nat.le_refl _) (I1.hok.fresh (Nat.le_refl _))
  · subst ex
    cases r1
    obtain ⟨its, rv, p, hz⟩ := I1.tuple hq
    refine wpAny_pyIter_tuple (show s1.heap.IsTuple a its.toArray from p) ?_
    refine ⟨s1.heap.objs.size, [s1.heap.objs.size], _, _, H1, rfl, I1.kept (t' := s1.toks) fun b o e => Heap.get?_push_of_some _ e, turn_tuple a _, ⟨_, Heap.get?_push_size _ rfl, rfl, rfl⟩, fun b hb => ?_, q⟩
    have e : b = s1.heap.objs.size := by simpa using hb
    subst e
    exact I1.fpOk (Nat.le_refl _) (I1.hok.fresh (Nat.le_refl _))
  · subst ex
    obtain ⟨t, rfl⟩ := r1
    cases ha : z.cps.all (· < 128)
    · exact wpAny_pyIter_wide ha (pi_one (tk := s1.toks) I1 _ (turn_str _ z t "str_iterator" (.inr rfl)) ⟨_, Heap.get?_push_size _ rfl, rfl, rfl⟩ q)
    · exact wpAny_pyIter_ascii ha (pi_one (tk := s1.toks) I1 _ (turn_str _ z t "str_ascii_iterator" (.inl rfl)) ⟨_, Heap.get?_push_size _ rfl, rfl, rfl⟩ q)
end
end L2.A

namespace L2.A
open PySem PySem.Spec PyProof.Rows
theorem go_start {t : TS} {D : Ends} {N : List Str} {vs : List V} {σ : St} {H : Hp} (e : start N vs = σ) (h : t D σ H) : t D (start N vs) H := by rw [e]; exact h
theorem ite_T {b : Bool} {A B : Prop} (e : b = true) (h : A) : if b = true then A else B := by rw [if_pos e]; exact h
theorem ite_F {b : Bool} {A B : Prop} (e : b = false) (h : B) : if b = true then A else B := by rw [e]; exact iteF h
/-- promises by the number of arguments -/
def Sp0 (R : Hp → VK → XK → Prop) : Sp := fun vs H Q E => vs = [] ∧ R H Q E
def Sp1 (R : V → Hp → VK → XK → Prop) : Sp := fun vs H Q E => ∃ a, vs = [a] ∧ R a H Q E
def Sp2 (R : V → V → Hp → VK → XK → Prop) : Sp := fun vs H Q E => ∃ a b, vs = [a, b] ∧ R a b H Q E
def Sp3 (R : V → V → V → Hp → VK → XK → Prop) : Sp := fun vs H Q E => ∃ a b c, vs = [a, b, c] ∧ R a b c H Q E
def Sp4 (R : V → V → V → V → Hp → VK → XK → Prop) : Sp := fun vs H Q E => ∃ a b c d, vs = [a, b, c, d] ∧ R a b c d H Q E
def Sp5 (R : V → V → V → V → V → Hp → VK → XK → Prop) : Sp := fun vs H Q E => ∃ a b c d e, vs = [a, b, c, d, e] ∧ R a b c d e H Q E
section
variable {vs : List V} {H : Hp} {Q : VK} {E : XK} {a b c d e : V}
theorem len0 {R} (h : Sp0 R vs H Q E) : vs.length = 0 := by obtain ⟨rfl, _⟩ := h; rfl
theorem len1 {R} (h : Sp1 R vs H Q E) : vs.length = 1 := by obtain ⟨_, rfl, _⟩ := h; rfl
theorem len2 {R} (h : Sp2 R vs H Q E) : vs.length = 2 := by obtain ⟨_, _, rfl, _⟩ := h; rfl
theorem len3 {R} (h : Sp3 R vs H Q E) : vs.length = 3 := by obtain ⟨_, _, _, rfl, _⟩ := h; rfl
theorem len4 {R} (h : Sp4 R vs H Q E) : vs.length = 4 := by obtain ⟨_, _, _, _, rfl, _⟩ := h; rfl
theorem len5 {R} (h : Sp5 R vs H Q E) : vs.length = 5 := by obtain ⟨_, _, _, _, _, rfl, _⟩ := h; rfl
theorem go_sp0 {R} (h : R H Q E) : Sp0 R ([] ++ []) H Q E := ⟨rfl, h⟩
theorem go_sp1 {R} (h : R a H Q E) : Sp1 R ([a] ++ []) H Q E := ⟨a, rfl, h⟩
theorem go_sp2 {R} (h : R a b H Q E) : Sp2 R ([a, b] ++ []) H Q E := ⟨a, b, rfl, h⟩
theorem go_sp3 {R} (h : R a b c H Q E) : Sp3 R ([a, b, c] ++ []) H Q E := ⟨a, b, c, rfl, h⟩
theorem go_sp4 {R} (h : R a b c d H Q E) : Sp4 R ([a, b, c, d] ++ []) H Q E := ⟨a, b, c, d, rfl, h⟩
theorem go_sp5 {R} (h : R a b c d e H Q E) : Sp5 R ([a, b, c, d, e] ++ []) H Q E := ⟨a, b, c, d, e, rfl, h⟩
end
end L2.A
namespace L2.A
open PySem PySem.Spec PyProof.Rows
section
variable {K : PySem.W.Frag} {H : Hp} {Q : VK} {v : V} {σ : St} {D : Ends}
theorem go_for {wi : TI} {g : TG} {tb : TS} (h : wi σ H fun J H1 => ∃ W : Nat → Nat → St → Hp → Prop, (∃ m, W 0 m σ H1) ∧ ∀ i m σ H, W i m σ H →
  (J.stop i H ∧ D.nx σ H) ∨ (J.go i H ∧ ∃ N : St → Hp → Prop, (∀ σ' H', N σ' H' → ∃ m', m' < m ∧ W (i + 1) m' σ' H') ∧ ∀ x H', J.yld i H x H' → g x σ H' fun σ2 H2 => tb { D with nx := N, ct := N, bk := D.nx } σ2 H2)) : tFor wi g tb D σ H := h
theorem go_iX {tl : TE} {R : It → Hp → Prop} (h : tl σ H fun x H1 => IX K x H1 R) : iX K tl σ H R := h
theorem go_iL {a : Addr} {xs : List V} {R : It → Hp → Prop} (hS : SqL K H a xs) (h : R (Itl K a) H) : IX K (.ref a) H R := .inl ⟨a, rfl, ⟨xs, hS⟩, h⟩
theorem go_iT {a : Addr} {xs : List V} {R : It → Hp → Prop} (hS : SqT K H a xs) (h : R (Itt K a) H) : IX K (.ref a) H R := .inr (.inl ⟨a, rfl, ⟨xs, hS⟩, h⟩)
theorem go_iS {z : Str} {R : It → Hp → Prop} (h : R (Its z) H) : IX K (.str z) H R := .inr (.inr ⟨z, rfl, h⟩)
theorem go_lc {wi : TI} {g : TG} {tt : TT} {te : TE} {vs : List Nat} (h : wi σ H fun J H1 => ∀ D, H1 D = none → ∃ W : Nat → Nat → Hp → Prop, (∃ m, W 0 m (upd H1 D (.lst []))) ∧ ∀ i m H, W i m H →
  (J.stop i H ∧ Q (.ref D) H) ∨ (J.go i H ∧ ∃ Nx : Hp → Prop, (∀ H', Nx H' → ∃ m', m' < m ∧ W (i + 1) m' H') ∧ ∀ x H', J.yld i H x H' → g x (wipe σ vs) H' fun σ2 H2 => wipe σ2 vs = wipe σ vs ∧ tt σ2 H2 fun b H3 =>
    if b = true then te σ2 H3 fun y H4 => ∃ acc, H4 D = some (.lst acc) ∧ acc.length < sizeLine ∧ Nx (upd H4 D (.lst (acc ++ [y]))) else Nx H3)) : tLc wi g tt te vs σ H Q := h
/-- a comprehension over a list whose elements are plain values, no test -/
theorem lcv_list {a : Addr} {xs : List V} {H1 : Hp} {g : TG} {te : TE} {vs : List Nat} {D : Addr} {Qd : Hp → Prop} (out : Nat → V) (hD : H1 D = none) (hz : xs.length ≤ 100000) (hS : SqL K H1 a xs)
    (hs : ∀ i x H', xs[i]? = some x → Same H1 H' → ∀ Q' : VK, (∀ H'', Same H' H'' → Q' (out i) H'') → g x (wipe σ vs) H' fun σ2 H2 => wipe σ2 vs = wipe σ vs ∧ te σ2 H2 Q')
    (mono : ∀ (x : V) (σ : St) (H : Hp) (Q Q' : St → Hp → Prop), (∀ σ H, Q σ H → Q' σ H) → g x σ H Q → g x σ H Q')
    (hd : ∀ H', Same H1 H' → H' D = some (.lst ((List.range xs.length).map out)) → Qd H') :
    ∃ W : Nat → Nat → Hp → Prop, (∃ m, W 0 m (upd H1 D (.lst []))) ∧ ∀ i m H, W i m H →
      ((Itl K a).stop i H ∧ Qd H) ∨ ((Itl K a).go i H ∧ ∃ Nx : Hp → Prop, (∀ H', Nx H' → ∃ m', m' < m ∧ W (i + 1) m' H') ∧ ∀ x H', (Itl K a).yld i H x H' → g x (wipe σ vs) H' fun σ2 H2 => wipe σ2 vs = wipe σ vs ∧ tYes σ2 H2 fun b H3 =>
        if b = true then te σ2 H3 fun y H4 => ∃ acc, H4 D = some (.lst acc) ∧ acc.length < sizeLine ∧ Nx (upd H4 D (.lst (acc ++ [y]))) else Nx H3) := by
  refine lc_list (xs := xs) (fun i H' => Same H1 H' ∧ H' D = some (.lst ((List.range i).map out))) ⟨same_new hD, upd_same⟩ (fun i H' _ ⟨s, _⟩ => s.seq hS) (fun i x H' hi ⟨s, e⟩ => ?_) fun H' ⟨s, e⟩ => hd H' s e
  have hil : i < xs.length := (List.getElem?_eq_some_iff.mp hi).1
  refine mono x _ _ _ _ (fun σ2 H2 q => q) (hs i x H' hi s (fun y H4 => ∃ acc, H4 D = some (.lst acc) ∧ acc.length < sizeLine ∧ (Same H1 (upd H4 D (.lst (acc ++ [y]))) ∧ (upd H4 D (.lst (acc ++ [y]))) D = some (.lst ((List.range (i + 1)).map out)))) fun H4 s4 => ?_)
  refine ⟨_, s4 _ _ e, ?_, same_mut (s.trans s4) hD, ?_⟩
  · rw [List.length_map, List.length_range]
    exact Nat.lt_of_lt_of_le (Nat.lt_of_lt_of_le hil hz) (by decide)
  · rw [upd_same, List.range_succ, List.map_append]
    rfl
theorem gname_mono {i : Nat} (x : V) (σ : St) (H : Hp) (Q Q' : St → Hp → Prop) (h : ∀ σ H, Q σ H → Q' σ H) (q : gName i x σ H Q) : gName i x σ H Q' := h _ _ q
theorem go_all {l : Addr} {bs : List Bool} (hS : SqL K H l (bs.map V.bl)) (h : Q (.bl (bs.all id)) H) : rAll K [.ref l] H Q := ⟨l, bs, rfl, hS, h⟩
theorem go_any {l : Addr} {bs : List Bool} (hS : SqL K H l (bs.map V.bl)) (h : Q (.bl (bs.any id)) H) : rAny K [.ref l] H Q := ⟨l, bs, rfl, hS, h⟩
theorem go_sum {l : Addr} {ns : List Int} (hS : SqL K H l (ns.map V.int)) (h : Q (.int ns.sum) H) : rSum K [.ref l] H Q := ⟨l, ns, rfl, hS, h⟩
theorem go_yes {QB : Bool → Hp → Prop} (h : QB true H) : tYes σ H QB := h
end
theorem range_map_const {n : Nat} {v : V} : (List.range n).map (fun _ => v) = List.replicate n v := by
  induction n with
  | zero => rfl
  | succ n ih => rw [List.range_succ, List.map_append, ih, List.replicate_succ'] <;> rfl
theorem all_true {n : Nat} : (List.replicate n true).all id = true := by simp
theorem szl {n : Nat} (h : n ≤ 100000) : n ≤ sizeLine := Nat.le_trans h (by decide)
theorem bl_ok {b : Bool} {Q : VK} {H : Hp} (e : b = true) (h : Q (.bl true) H) : Q (.bl b) H := by rw [e]; exact h
end L2.A

namespace L2.Toy
open PySem PySem.Spec PyProof.Rows L2.A
local macro_rules | `(tactic| walk_at "1") => `(tactic| first
  | with_reducible refine go_seq ?_
  | with_reducible refine go_nx ?_
  | with_reducible refine go_asg ?_
  | with_reducible refine go_op ?_
  | ((with_reducible refine' go_var ?e ?_); (case e => exact rfl))
  | ((with_reducible refine' go_name ?e ?_); (case e => (simp only [List.set_cons_zero, List.set_cons_succ]; rfl)))
  | with_reducible refine go_c ?_
  | with_reducible refine go_I0 ?_
  | with_reducible refine go_addI ?_
  | ((with_reducible refine go_mulI ?e ?_); (case e => (show CMul _ _; unfold CMul; omega)))
  | ((with_reducible refine go_I ?e ?_); (case e => (first | omega | (show CDiv _ _; unfold CDiv; omega) | (show (0 : Int) < _; omega))))
  | with_reducible refine go_if ?_
  | with_reducible refine go_test ?_
  | with_reducible refine go_bl ?_
  | ((with_reducible refine go_eqS ?e ?_); (case e => exact rfl))
  | ((with_reducible refine go_neS ?e ?_); (case e => exact rfl))
  | with_reducible refine go_isN ?_
  | with_reducible refine go_notN ?_
  | with_reducible refine go_ret ?_
  | with_reducible refine go_rt ?_
  | with_reducible refine go_retN ?_
  | with_reducible refine go_cons ?_
  | with_reducible refine go_nil ?_
  | with_reducible refine go_call ?_
  | with_reducible refine go_CB ?_
  | with_reducible refine go_tup ?_
  | with_reducible refine go_lst ?_
  | with_reducible refine go_newT rfl ?_
  | with_reducible refine go_newL rfl ?_
  | with_reducible refine go_not ?_
  | with_reducible refine go_and ?_
  | with_reducible refine go_or ?_
  | with_reducible refine go_andV ?_
  | with_reducible refine go_orV ?_
  | with_reducible refine go_notV ?_
  | with_reducible refine go_tru ?_
  | with_reducible refine go_truB ?_
  | with_reducible refine go_truI ?_
  | with_reducible refine go_chain ?_
  | with_reducible refine go_ifx ?_
  | with_reducible refine go_drop ?_
  | with_reducible refine go_un ?_
  | with_reducible refine go_U ?_
  | with_reducible refine go_gcons ?_
  | with_reducible refine go_gnil ?_
  | with_reducible refine go_sub ?_
  | with_reducible refine go_intI ?_
  | with_reducible refine go_intB ?_
  | with_reducible refine go_next ?_
  | with_reducible refine go_for ?_
  | with_reducible refine go_lc ?_
  | with_reducible refine go_iX ?_
  | with_reducible refine go_yes ?_
  | with_reducible refine go_max ?_
  | with_reducible refine go_min ?_
  | with_reducible refine go_abs ?_
  | ((with_reducible refine' go_isi ?e ?f ?_); (case e => exact .base (by first | exact .int _ | exact .bl _ | exact .str _ | exact .non)); (case f => first | exact kit_ii | exact kit_ib | exact kit_bb | exact kit_bi | exact kit_ss | exact kit_nb | exact kit_ni | exact kit_ns | exact kit_nt | exact kit_is | exact kit_si | exact kit_sb | exact kit_bs))
  | with_reducible refine go_brk ?_
  | with_reducible refine go_ct ?_
  | with_reducible refine go_bk ?_
  | with_reducible refine go_ctx ?_
  | (with_reducible refine iteT ?_)
  | (with_reducible refine iteNT ?_)
  | (with_reducible refine iteNF ?_)
  | (with_reducible refine iteF ?_))
local macro_rules | `(tactic| walk_at "*") => `(tactic| ((try dsimp only); (repeat walk_at "1")))

def top (i : Nat) : Stmt := PySem.Challenge.pw_inningsbook_k63_aims.main.body.getD i (.Pass ⟨0, 0, 0, 0⟩)
structure Txt (K : PySem.W.Frag) (mg : Str → Option Value) : Prop where
  b_all : mg "all" = none
  b_bool : mg "bool" = none
  b_int : mg "int" = none
  b_isinstance : mg "isinstance" = none
  b_len : mg "len" = none
  b_list : mg "list" = none
  b_max : mg "max" = none
  b_min : mg "min" = none

def aimV (f h s u : Int) : Int := if s ≤ h then f * s / h + 1 else f + u * (s - h) / 1000 + 1
theorem aim_lo {f h s u : Int} (hh : 1 ≤ h) (c : s ≤ h) : (aimV f h s u - 1) * h ≤ f * s ∧ f * s < aimV f h s u * h := by
  unfold aimV
  rw [if_pos c]
  have h1 := Int.emod_add_mul_ediv (f * s) h
  have h2 := Int.emod_nonneg (f * s) (b := h) (by omega)
  have h3 := Int.emod_lt_of_pos (f * s) (b := h) (by omega)
  have e1 : (f * s / h + 1 - 1) * h = h * (f * s / h) := by rw [Int.add_sub_cancel, Int.mul_comm]
  have e2 : (f * s / h + 1) * h = h * (f * s / h) + h := by rw [Int.add_mul, Int.one_mul, Int.mul_comm]
  omega
theorem aim_hi {f h s u : Int} (c : ¬ s ≤ h) : (aimV f h s u - 1 - f) * 1000 ≤ u * (s - h) ∧ u * (s - h) < (aimV f h s u - 1 - f + 1) * 1000 := by
  unfold aimV
  rw [if_neg c]
  omega

/-! ### aim -/
abbrev s_aim : Stmt := top 1
abbrev N_aim : List Str := ["first", "had", "has", "usual"]
theorem sc_aim : FnScope N_aim ["first", "had", "has", "usual"] (defScope s_aim) := ⟨rfl, rfl, rfl, by decide +kernel, rfl, by decide +kernel, by decide +kernel⟩
def pr_aim (K : PySem.W.Frag) : V → V → V → V → Hp → VK → XK → Prop := fun a0 a1 a2 a3 H Q E => ∃ f h s u : Int, a0 = .int f ∧ a1 = .int h ∧ a2 = .int s ∧ a3 = .int u ∧ 0 ≤ f ∧ f ≤ 9999 ∧ 1 ≤ h ∧ h ≤ 1000 ∧ 0 ≤ s ∧ s ≤ 1000 ∧ 0 ≤ u ∧ u ≤ 9999 ∧ Q (.int (aimV f h s u)) H
abbrev sp_aim (K : PySem.W.Frag) : Sp := Sp4 (pr_aim K)
theorem ok_aim {P : Program} {w : World} {K : PySem.W.Frag} {mg : Str → Option Value} {base : Heap} {f : Addr} {fd : FuncData} (F : FunD K "aim" "aim" (defArgs s_aim) (defBody s_aim) (defScope s_aim) [] [] f fd) (T : Txt K mg)  : FnOk P w K mg base CX0 1 f fd ["first", "had", "has", "usual"] (sp_aim K) := by
  refine F.ok sc_aim (fun vs H Q E h => len4 h) (fun cdv A outer s H vs Q E hr h => ?_)
  obtain ⟨a0, a1, a2, a3, rfl, h⟩ := h
  have hu := hu_of hr
  refine ⟨_, PSs.nox ((pss_cons (ps_if (pt_cmpR op_le (pv 2) (pv 1) (nomark _)) (pss_one (ps_ret (pe_op op_addX (pe_op op_fdiv (pe_op op_mulX (pv 0) (pv 2)) (pv 1)) pe_int))) pss_nil)
      (pss_one (ps_ret (pe_op op_addX (pe_op op_addX (pv 0) (pe_op op_fdiv (pe_op op_mulX (pv 3) (pe_op op_sub (pv 2) (pv 1))) pe_int)) pe_int))))), ?_⟩
  refine go_start (σ := [some a0, some a1, some a2, some a3]) rfl ?_
  try dsimp only [cxOf, Cx.nox, Cx.wish]
  obtain ⟨f, h, s, u, rfl, rfl, rfl, rfl, h1, h2, h3, h4, h5, h6, h7, h8, hq⟩ := h
  walk_at "*"
  refine if2 (fun c => ?_) (fun c => ?_)
  · have c := of_decide_eq_true c
    walk_at "*"
    have e : aimV f h s u = f * s / h + 1 := by unfold aimV; rw [if_pos c]
    rw [← e]
    exact hq
  · have c := of_decide_eq_false c
    walk_at "*"
    have e : aimV f h s u = f + u * (s - h) / 1000 + 1 := by unfold aimV; rw [if_neg c]
    rw [← e]
    exact hq
/-! ### _law_mixed -/
abbrev s__law_mixed : Stmt := top 3
abbrev N__law_mixed : List Str := ["_law_cell", "_law_k", "_law_m"]
theorem sc__law_mixed : FnScope N__law_mixed ["_law_cell", "_law_k"] (defScope s__law_mixed) := ⟨rfl, rfl, rfl, by decide +kernel, rfl, by decide +kernel, by decide +kernel⟩
def pr__law_mixed (K : PySem.W.Frag) : V → V → Hp → VK → XK → Prop := fun a0 a1 H Q E => ∃ c k : Int, a0 = .int c ∧ a1 = .int k ∧ 0 ≤ k ∧ k ≤ 10000 ∧ ∀ r : Int, 0 ≤ r → r < 2147483587 → Q (.int r) H
abbrev sp__law_mixed (K : PySem.W.Frag) : Sp := Sp2 (pr__law_mixed K)
theorem ok__law_mixed {P : Program} {w : World} {K : PySem.W.Frag} {mg : Str → Option Value} {base : Heap} {f : Addr} {fd : FuncData} (F : FunD K "_law_mixed" "_law_mixed" (defArgs s__law_mixed) (defBody s__law_mixed) (defScope s__law_mixed) [] [] f fd) (T : Txt K mg)  : FnOk P w K mg base CX0 1 f fd ["_law_cell", "_law_k"] (sp__law_mixed K) := by
  refine F.ok sc__law_mixed (fun vs H Q E h => len2 h) (fun cdv A outer s H vs Q E hr h => ?_)
  obtain ⟨a0, a1, rfl, h⟩ := h
  have hu := hu_of hr
  refine ⟨_, PSs.nox ((pss_cons (ps_set (i := 2) sc__law_mixed.nd rfl (by first | exact Or.inl rfl | exact Or.inr rfl) (pe_op op_mod (pe_op op_addX (pe_op op_mulX (pe_op op_mod (pv 0) pe_int) pe_int) (pe_op op_mulX (pe_op op_addX (pe_op op_addX (pe_op op_mulX (pv 1) (pv 1)) (pe_op op_mulX pe_int (pv 1))) pe_int) pe_int)) pe_int))
      (pss_cons (ps_set (i := 2) sc__law_mixed.nd rfl (by first | exact Or.inl rfl | exact Or.inr rfl) (pe_op op_addX (pe_op op_mod (pe_op op_mulX (pv 2) (pv 2)) pe_int) (pv 1)))
      (pss_one (ps_ret (pe_op op_mod (pe_op op_mulX (pv 2) (pe_op op_addX (pe_op op_addX (pe_op op_fdiv (pv 2) pe_int) (pe_op op_mulX pe_int (pv 1))) pe_int)) pe_int)))))), ?_⟩
  refine go_start (σ := [some a0, some a1, none]) rfl ?_
  try dsimp only [cxOf, Cx.nox, Cx.wish]
  obtain ⟨c, k, rfl, rfl, h1, h2, hq⟩ := h
  walk_at "*"
  exact hq _ (Int.emod_nonneg _ (by decide)) (Int.emod_lt_of_pos _ (by decide))
/-! ### _law_take -/
abbrev s__law_take : Stmt := top 4
abbrev N__law_take : List Str := ["_law_pot_here", "_law_many", "_law_got"]
theorem sc__law_take : FnScope N__law_take ["_law_pot_here", "_law_many"] (defScope s__law_take) := ⟨rfl, rfl, rfl, by decide +kernel, rfl, by decide +kernel, by decide +kernel⟩
def pr__law_take (K : PySem.W.Frag) : V → V → Hp → VK → XK → Prop := fun a0 a1 H Q E => ∃ (p : Addr) (n c f m : Int), a0 = .ref p ∧ a1 = .int m ∧ H p = some (.lst [.int n, .int c, .int f]) ∧ 0 ≤ c ∧ c ≤ 9000 ∧ 1 ≤ m ∧ m < 1073741824 ∧ ∀ r n' : Int, 0 ≤ r → r < m → Q (.int r) (upd H p (.lst [.int n', .int (c + 1), .int f]))
abbrev sp__law_take (K : PySem.W.Frag) : Sp := Sp2 (pr__law_take K)
theorem ok__law_take {P : Program} {w : World} {K : PySem.W.Frag} {mg : Str → Option Value} {base : Heap} {f : Addr} {fd : FuncData} (F : FunD K "_law_take" "_law_take" (defArgs s__law_take) (defBody s__law_take) (defScope s__law_take) [] [] f fd) (T : Txt K mg) (d__law_mixed : Dn P w K mg base CX0 1 "_law_mixed" ["_law_cell", "_law_k"] [] (sp__law_mixed K)) : FnOk P w K mg base CX0 2 f fd ["_law_pot_here", "_law_many"] (sp__law_take K) := by
  refine F.ok sc__law_take (fun vs H Q E h => len2 h) (fun cdv A outer s H vs Q E hr h => ?_)
  obtain ⟨a0, a1, rfl, h⟩ := h
  have hu := hu_of hr
  refine ⟨_, PSs.nox ((pss_cons (ps_asg (pe_op op_addX (pe_ix (ix_X hu) (pv 0) pe_int (fun _ _ => rfl)) pe_int) (pg_sub (pv 0) pe_int (set_X hu)))
      (pss_cons (ps_if (pt_cmpR (op_eqX hr.units) (pe_ix (ix_X hu) (pv 0) pe_int (fun _ _ => rfl)) pe_int (nomark _)) (pss_cons (ps_set (i := 2) sc__law_take.nd rfl (by first | exact Or.inl rfl | exact Or.inr rfl) (pe_op op_mod (pe_ix (ix_X hu) (pv 0) pe_int (fun _ _ => rfl)) (pv 1)))
      (pss_cons (ps_asg (pe_op op_fdiv (pe_ix (ix_X hu) (pv 0) pe_int (fun _ _ => rfl)) (pv 1)) (pg_sub (pv 0) pe_int (set_X hu)))
      (pss_one (ps_ret (pv 2))))) pss_nil)
      (pss_one (ps_ret (pe_op op_mod (pe_d d__law_mixed (hr.mono (by decide)) rfl pass0 (pa_cons (pe_ix (ix_X hu) (pv 0) pe_int (fun _ _ => rfl)) (pa_cons (pe_ix (ix_X hu) (pv 0) pe_int (fun _ _ => rfl)) pa_nil))) (pv 1))))))), ?_⟩
  refine go_start (σ := [some a0, some a1, none]) rfl ?_
  try dsimp only [cxOf, Cx.nox, Cx.wish]
  obtain ⟨p, n, c, f, m, rfl, rfl, hp, h1, h2, h3, h4, hq⟩ := h
  walk_at "*"
  refine go_xL (.of hp) rfl ?_
  walk_at "*"
  refine go_sL hp rfl ?_
  walk_at "*"
  refine go_xL (.of upd_same) rfl ?_
  walk_at "*"
  refine if2 (fun c => ?_) (fun c => ?_)
  · walk_at "*"
    refine go_xL (.of upd_same) rfl ?_
    walk_at "*"
    refine go_xL (.of upd_same) rfl ?_
    walk_at "*"
    refine go_sL upd_same rfl ?_
    walk_at "*"
    rw [upd_upd]
    exact hq _ _ (Int.emod_nonneg _ (by omega)) (Int.emod_lt_of_pos _ (by omega))
  · walk_at "*"
    refine go_xL (.of upd_same) rfl ?_
    walk_at "*"
    refine go_xL (.of upd_same) rfl ?_
    walk_at "*"
    refine go_sp2 ⟨_, _, rfl, rfl, by omega, by omega, fun r _ _ => ?_⟩
    walk_at "*"
    exact hq _ _ (Int.emod_nonneg _ (by omega)) (Int.emod_lt_of_pos _ (by omega))
/-! ### _law_pot -/
abbrev s__law_pot : Stmt := top 5
abbrev N__law_pot : List Str := ["_law_cell"]
theorem sc__law_pot : FnScope N__law_pot ["_law_cell"] (defScope s__law_pot) := ⟨rfl, rfl, rfl, by decide +kernel, rfl, by decide +kernel, by decide +kernel⟩
def pr__law_pot (K : PySem.W.Frag) : V → Hp → VK → XK → Prop := fun a0 H Q E => ∃ n : Int, a0 = .int n ∧ ∀ (p : Addr) (n' f : Int), H p = none → Q (.ref p) (upd H p (.lst [.int n', .int 0, .int f]))
abbrev sp__law_pot (K : PySem.W.Frag) : Sp := Sp1 (pr__law_pot K)
theorem ok__law_pot {P : Program} {w : World} {K : PySem.W.Frag} {mg : Str → Option Value} {base : Heap} {f : Addr} {fd : FuncData} (F : FunD K "_law_pot" "_law_pot" (defArgs s__law_pot) (defBody s__law_pot) (defScope s__law_pot) [] [] f fd) (T : Txt K mg)  : FnOk P w K mg base CX0 1 f fd ["_law_cell"] (sp__law_pot K) := by
  refine F.ok sc__law_pot (fun vs H Q E h => len1 h) (fun cdv A outer s H vs Q E hr h => ?_)
  obtain ⟨a0, rfl, h⟩ := h
  have hu := hu_of hr
  refine ⟨_, PSs.nox ((pss_one (ps_ret (pe_lst (pa_cons (pe_op op_fdiv (pv 0) pe_int) (pa_cons pe_int (pa_cons (pe_op op_mod (pv 0) pe_int) pa_nil))))))), ?_⟩
  refine go_start (σ := [some a0]) rfl ?_
  try dsimp only [cxOf, Cx.nox, Cx.wish]
  obtain ⟨n, rfl, hq⟩ := h
  walk_at "*"
  exact fun p hp => hq p _ _ hp
/-! ### _law_one -/
abbrev s__law_one : Stmt := top 6
abbrev N__law_one : List Str := ["_law_cell", "_law_pot_here", "_law_way", "_law_first", "_law_usual", "_law_had", "_law_has", "_law_found", "_law_more"]
theorem sc__law_one : FnScope N__law_one ["_law_cell"] (defScope s__law_one) := ⟨rfl, rfl, rfl, by decide +kernel, rfl, by decide +kernel, by decide +kernel⟩
def pr__law_one (K : PySem.W.Frag) : V → Hp → VK → XK → Prop := fun a0 H Q E => ∃ n : Int, a0 = .int n ∧ ∀ H', Same H H' → Q (.bl true) H' 
abbrev sp__law_one (K : PySem.W.Frag) : Sp := Sp1 (pr__law_one K)
theorem ok__law_one {P : Program} {w : World} {K : PySem.W.Frag} {mg : Str → Option Value} {base : Heap} {f : Addr} {fd : FuncData} (F : FunD K "_law_one" "_law_one" (defArgs s__law_one) (defBody s__law_one) (defScope s__law_one) [] [] f fd) (T : Txt K mg) (d__law_pot : Dn P w K mg base CX0 1 "_law_pot" ["_law_cell"] [] (sp__law_pot K)) (d__law_take : Dn P w K mg base CX0 2 "_law_take" ["_law_pot_here", "_law_many"] [] (sp__law_take K)) (d_aim : Dn P w K mg base CX0 1 "aim" ["first", "had", "has", "usual"] [] (sp_aim K)) : FnOk P w K mg base CX0 3 f fd ["_law_cell"] (sp__law_one K) := by
  refine F.ok sc__law_one (fun vs H Q E h => len1 h) (fun cdv A outer s H vs Q E hr h => ?_)
  obtain ⟨a0, rfl, h⟩ := h
  have hu := hu_of hr
  refine ⟨_, PSs.nox ((pss_cons (ps_set (i := 1) sc__law_one.nd rfl (by first | exact Or.inl rfl | exact Or.inr rfl) (pe_d d__law_pot (hr.mono (by decide)) rfl pass0 (pa_cons (pv 0) pa_nil)))
      (pss_cons (ps_set (i := 2) sc__law_one.nd rfl (by first | exact Or.inl rfl | exact Or.inr rfl) (pe_d d__law_take (hr.mono (by decide)) rfl pass0 (pa_cons (pv 1) (pa_cons pe_int pa_nil))))
      (pss_cons (ps_set (i := 3) sc__law_one.nd rfl (by first | exact Or.inl rfl | exact Or.inr rfl) (pe_d d__law_take (hr.mono (by decide)) rfl pass0 (pa_cons (pv 1) (pa_cons pe_int pa_nil))))
      (pss_cons (ps_set (i := 4) sc__law_one.nd rfl (by first | exact Or.inl rfl | exact Or.inr rfl) (pe_d d__law_take (hr.mono (by decide)) rfl pass0 (pa_cons (pv 1) (pa_cons pe_int pa_nil))))
      (pss_cons (ps_set (i := 5) sc__law_one.nd rfl (by first | exact Or.inl rfl | exact Or.inr rfl) (pe_op op_addX pe_int (pe_d d__law_take (hr.mono (by decide)) rfl pass0 (pa_cons (pv 1) (pa_cons pe_int pa_nil)))))
      (pss_cons (ps_set (i := 6) sc__law_one.nd rfl (by first | exact Or.inl rfl | exact Or.inr rfl) (pe_d d__law_take (hr.mono (by decide)) rfl pass0 (pa_cons (pv 1) (pa_cons pe_int pa_nil))))
      (pss_cons (ps_if (pt_cmpR op_lt (pv 2) pe_int (nomark _)) (pss_one (ps_set (i := 6) sc__law_one.nd rfl (by first | exact Or.inl rfl | exact Or.inr rfl) (pe_callB (call_mx2 rfl) (by rfl) T.b_max L2.A.boot_max (pa_cons pe_int (pa_cons (pe_callB (call_mn2 rfl) (by rfl) T.b_min L2.A.boot_min (pa_cons pe_int (pa_cons (pe_op op_sub (pe_op op_addX (pv 5) (pv 2)) pe_int) pa_nil))) pa_nil))))) pss_nil)
      (pss_cons (ps_set (i := 7) sc__law_one.nd rfl (by first | exact Or.inl rfl | exact Or.inr rfl) (pe_d d_aim (hr.mono (by decide)) rfl pass0 (pa_cons (pv 3) (pa_cons (pv 5) (pa_cons (pv 6) (pa_cons (pv 4) pa_nil))))))
      (pss_cons (ps_if (PW.pt (pw_or (pt_not (pt_truX (pe_callB call_isiX (by rfl) T.b_isinstance L2.A.boot_isinstance (pa_cons (pv 7) (pa_cons (pe_bltn (v := .ty "int") (by rfl) T.b_int L2.A.boot_int rfl) pa_nil))))) (pw_or1 (pt_truX (pe_callB call_isiX (by rfl) T.b_isinstance L2.A.boot_isinstance (pa_cons (pv 7) (pa_cons (pe_bltn (v := .ty "bool") (by rfl) T.b_bool L2.A.boot_bool rfl) pa_nil))))))) (pss_one (ps_ret pe_bl)) pss_nil)
      (pss_cons (ps_if (pt_cmpR op_le (pv 6) (pv 5) (nomark _)) (pss_one (ps_ret (pe_chain op_le op_lt (pe_op op_mulX (pe_op op_sub (pv 7) pe_int) (pv 5)) (pe_op op_mulX (pv 3) (pv 6)) (pe_op op_mulX (pv 7) (pv 5))))) pss_nil)
      (pss_cons (ps_set (i := 8) sc__law_one.nd rfl (by first | exact Or.inl rfl | exact Or.inr rfl) (pe_op op_sub (pe_op op_sub (pv 7) pe_int) (pv 3)))
      (pss_one (ps_ret (pe_chain op_le op_lt (pe_op op_mulX (pv 8) pe_int) (pe_op op_mulX (pv 4) (pe_op op_sub (pv 6) (pv 5))) (pe_op op_mulX (pe_op op_addX (pv 8) pe_int) pe_int)))))))))))))))), ?_⟩
  refine go_start (σ := [some a0, none, none, none, none, none, none, none, none]) rfl ?_
  try dsimp only [cxOf, Cx.nox, Cx.wish]
  obtain ⟨n, rfl, hq⟩ := h
  walk_at "*"
  refine go_sp1 ⟨_, rfl, fun p n0 f0 hp => ?_⟩
  walk_at "*"
  refine go_sp2 ⟨p, _, _, _, _, rfl, rfl, upd_same, by omega, by omega, by omega, by omega, fun w n1 hw0 hw1 => ?_⟩
  walk_at "*"
  refine go_sp2 ⟨p, _, _, _, _, rfl, rfl, upd_same, by omega, by omega, by omega, by omega, fun f n2 hf0 hf1 => ?_⟩
  walk_at "*"
  refine go_sp2 ⟨p, _, _, _, _, rfl, rfl, upd_same, by omega, by omega, by omega, by omega, fun u n3 hu0 hu1 => ?_⟩
  walk_at "*"
  refine go_sp2 ⟨p, _, _, _, _, rfl, rfl, upd_same, by omega, by omega, by omega, by omega, fun h n4 hh0 hh1 => ?_⟩
  walk_at "*"
  refine go_sp2 ⟨p, _, _, _, _, rfl, rfl, upd_same, by omega, by omega, by omega, by omega, fun s n5 hs0 hs1 => ?_⟩
  rw [upd_upd, upd_upd, upd_upd, upd_upd, upd_upd]
  have hS := same_new (o := HO.lst [V.int n5, V.int (0 + 1 + 1 + 1 + 1 + 1), V.int f0]) hp
  walk_at "*"
  refine if2 (fun c => ?_) (fun c => ?_)
  all_goals walk_at "*"
  all_goals refine go_sp4 ⟨_, _, _, _, rfl, rfl, rfl, rfl, by omega, by omega, by omega, by omega, by omega, by omega, by omega, by omega, ?_⟩
  all_goals walk_at "*"
  all_goals refine if2 (fun c2 => ?_) (fun c2 => ?_)
  all_goals walk_at "*"
  all_goals first
    | (have c2 := of_decide_eq_true c2
       refine ite_T (decide_eq_true (aim_lo (by omega) c2).1) ?_
       walk_at "*"
       exact bl_ok (decide_eq_true (aim_lo (by omega) c2).2) (hq _ hS))
    | (have c2 := of_decide_eq_false c2
       refine ite_T (decide_eq_true (aim_hi c2).1) ?_
       walk_at "*"
       exact bl_ok (decide_eq_true (aim_hi c2).2) (hq _ hS))
/-! ### law -/
abbrev s_law : Stmt := top 7
abbrev N_law : List Str := ["_law_script", "_law_cells", "_law_cell"]
theorem sc_law : FnScope N_law ["_law_script"] (defScope s_law) := ⟨rfl, rfl, rfl, by decide +kernel, rfl, by decide +kernel, by decide +kernel⟩
def pr_law (K : PySem.W.Frag) : V → Hp → VK → XK → Prop := fun a0 H Q E => ∃ (a : Addr) (ns : List Int), a0 = .ref a ∧ SqL K H a (ns.map V.int) ∧ ns.length ≤ 63 ∧ ∀ H', Q (.bl true) H' 
abbrev sp_law (K : PySem.W.Frag) : Sp := Sp1 (pr_law K)
theorem ok_law {P : Program} {w : World} {K : PySem.W.Frag} {mg : Str → Option Value} {base : Heap} {f : Addr} {fd : FuncData} (F : FunD K "law" "law" (defArgs s_law) (defBody s_law) (defScope s_law) [] [] f fd) (T : Txt K mg) (d__law_one : Dn P w K mg base CX0 3 "_law_one" ["_law_cell"] [] (sp__law_one K)) : FnOk P w K mg base CX0 4 f fd ["_law_script"] (sp_law K) := by
  refine F.ok sc_law (fun vs H Q E h => len1 h) (fun cdv A outer s H vs Q E hr h => ?_)
  obtain ⟨a0, rfl, h⟩ := h
  have hu := hu_of hr
  refine ⟨_, PSs.nox ((pss_cons (ps_set (i := 1) sc_law.nd rfl (by first | exact Or.inl rfl | exact Or.inr rfl) (pe_callTy call_listO (by rfl) T.b_list L2.A.boot_list (pa_cons (pv 0) pa_nil)))
      (pss_cons (ps_if (pt_cmpR (op_eqX hr.units) (pe_callB call_lenX (by rfl) T.b_len L2.A.boot_len (pa_cons (pv 1) pa_nil)) pe_int (nomark _)) (pss_one (ps_set (i := 1) sc_law.nd rfl (by first | exact Or.inl rfl | exact Or.inr rfl) (pe_lst (pa_cons pe_int pa_nil)))) pss_nil)
      (pss_one (ps_ret (pe_callB (cr_all rfl) (by rfl) T.b_all L2.A.boot_all (pa_cons (pe_lc (own := [("_law_cell", 2)]) rfl sc_law.nd (pi_X (pv 1)) (blkOk_by (N := N_law) (sc := defScope s_law) (own := [("_law_cell", 2)]) (by decide +kernel)) (fun _ _ _ _ _ => (pg_name (i := 2) sc_law.nd rfl (by first | exact Or.inl rfl | exact Or.inr rfl))) (fun _ _ _ _ _ => pts_nil) (fun _ _ _ _ _ => (pe_d d__law_one (hr.mono (by decide)) rfl pass0 (pa_cons (pv 2) pa_nil)))) pa_nil))))))), ?_⟩
  refine go_start (σ := [some a0, none, none]) rfl ?_
  try dsimp only [cxOf, Cx.nox, Cx.wish]
  obtain ⟨a, ns, rfl, hS, hl, hq⟩ := h
  walk_at "*"
  refine go_listL hS fun l hl => ?_
  walk_at "*"
  refine go_lenL (.of upd_same) ?_
  walk_at "*"
  refine if2 (fun c => ?_) (fun c => ?_)
  · walk_at "*"
    intro p hp
    walk_at "*"
    refine go_iL (.of upd_same) ?_
    intro D hD
    refine lcv_list (xs := [V.int 0]) (fun _ => V.bl true) hD (by decide) (.of upd_same) (fun i x H' hi s Q' q => ?_) gname_mono fun H' s e => ?_
    · obtain rfl : x = V.int 0 := by
        rcases i with _ | i
        · simpa using hi.symm
        · simp at hi
      refine ⟨rfl, ?_⟩
      walk_at "*"
      exact go_sp1 ⟨_, rfl, q⟩
    · walk_at "*"
      rw [range_map_const, ← List.map_replicate] at e
      exact go_all (.of e) (bl_ok all_true (hq _))
  · walk_at "*"
    refine go_iL (.of upd_same) ?_
    intro D hD
    refine lcv_list (xs := ns.map V.int) (fun _ => V.bl true) hD (by rw [List.length_map]; omega) (.of upd_same) (fun i x H' hi s Q' q => ?_) gname_mono fun H' s e => ?_
    · obtain ⟨z, rfl⟩ : ∃ z, x = V.int z := by
        rw [List.getElem?_map] at hi
        cases e : ns[i]? with
        | none => rw [e] at hi; cases hi
        | some z => rw [e] at hi; exact ⟨z, (Option.some.inj hi).symm⟩
      refine ⟨rfl, ?_⟩
      walk_at "*"
      exact go_sp1 ⟨_, rfl, q⟩
    · walk_at "*"
      rw [range_map_const, ← List.map_replicate] at e
      exact go_all (.of e) (bl_ok all_true (hq _))
/-! ### the head -/
def D_aim : He.DefD := ⟨("aim", none), "aim", "aim", defArgs s_aim, defBody s_aim, defScope s_aim, [], []⟩
def D__law_mixed : He.DefD := ⟨("_law_mixed", none), "_law_mixed", "_law_mixed", defArgs s__law_mixed, defBody s__law_mixed, defScope s__law_mixed, [], []⟩
def D__law_take : He.DefD := ⟨("_law_take", none), "_law_take", "_law_take", defArgs s__law_take, defBody s__law_take, defScope s__law_take, [], []⟩
def D__law_pot : He.DefD := ⟨("_law_pot", none), "_law_pot", "_law_pot", defArgs s__law_pot, defBody s__law_pot, defScope s__law_pot, [], []⟩
def D__law_one : He.DefD := ⟨("_law_one", none), "_law_one", "_law_one", defArgs s__law_one, defBody s__law_one, defScope s__law_one, [], []⟩
def D_law : He.DefD := ⟨("law", none), "law", "law", defArgs s_law, defBody s_law, defScope s_law, [], []⟩
def fn : List He.DefD := [D_aim, D__law_mixed, D__law_take, D__law_pot, D__law_one, D_law]
def fa : List He.Fa := [.glo "aim", .glo "_law_mixed", .glo "_law_take", .glo "_law_pot", .glo "_law_one", .glo "law", .free "all", .free "bool", .free "int", .free "isinstance", .free "len", .free "list", .free "max", .free "min"]
abbrev R : PySem.W.OpenRow := PySem.W.OpenLaw.row PySem.Challenge.rw_inningsbook_k63_aims
abbrev hk : PySem.W.Hook := He.hookD 4 fa fn
def ob (s : PySem.W.SharedT) : He.AlD := He.obsDG 4 fa fn (HandSHeadRun.getT s)
theorem ob_eq (s : PySem.W.SharedT) : ob s = hk.obs s.abs := He.obsDG_eq (HandSHeadRun.getT_eq s)
abbrev loose : List Str := (["aim", "_law_mixed", "_law_take", "_law_pot", "_law_one"] : List Str)
theorem run (w : World) : HandSHeadRun.RunEq R (PySem.W.view R.prog [7]) hk ob 2000 loose w := by
  intro os
  kernel_rfl
theorem facts {P : Program} {w : World} {K : PySem.W.Frag} {h : Heap} {mg : Str → Option Value} {f : Addr} (X : K.In h) (G : h.Ns mainGlobals mg) (hfa : mg ("law" : Str) = some (.ref f)) (c : He.SaysD fa fn K) :
    ∃ fd : FuncData, (∀ (s : Shared) (v : Value), BindsTo s fd ⟨[v], []⟩ [("_law_script", v)]) ∧ ∀ base : Heap, K.In base → base.Ns mainGlobals mg → FnOk P w K mg base CX0 4 f fd ["_law_script"] (sp_law K) := by
  have T : Txt K mg := ⟨He.free_ok X G (c.fact 6 (f := .free "all") rfl), He.free_ok X G (c.fact 7 (f := .free "bool") rfl), He.free_ok X G (c.fact 8 (f := .free "int") rfl), He.free_ok X G (c.fact 9 (f := .free "isinstance") rfl), He.free_ok X G (c.fact 10 (f := .free "len") rfl), He.free_ok X G (c.fact 11 (f := .free "list") rfl), He.free_ok X G (c.fact 12 (f := .free "max") rfl), He.free_ok X G (c.fact 13 (f := .free "min") rfl)⟩
  obtain ⟨fd_aim, F_aim⟩ := c.def_ 0 (d := D_aim) rfl
  obtain ⟨fd__law_mixed, F__law_mixed⟩ := c.def_ 1 (d := D__law_mixed) rfl
  obtain ⟨fd__law_take, F__law_take⟩ := c.def_ 2 (d := D__law_take) rfl
  obtain ⟨fd__law_pot, F__law_pot⟩ := c.def_ 3 (d := D__law_pot) rfl
  obtain ⟨fd__law_one, F__law_one⟩ := c.def_ 4 (d := D__law_one) rfl
  obtain ⟨fd_law, F_law⟩ := c.def_ 5 (d := D_law) rfl
  have e := hfa.symm.trans (He.glo_ok X G (c.fact 5 (f := .glo "law") rfl))
  cases e
  have b := FunD.bindsA (ps := ["_law_script"]) F_law fun _ _ _ _ _ _ us hl => match us, hl with | [_], _ => rfl
  refine ⟨fd_law, fun s v => b s [v] rfl, fun base hb hn => ?_⟩
  have d_aim : Dn P w K mg base CX0 1 "aim" ["first", "had", "has", "usual"] [] (sp_aim K) := ⟨⟨_, _, [], ok_aim F_aim T , He.glo_ok X G (c.fact 0 (f := .glo "aim") rfl), F_aim.kp, FunD.bindsN F_aim fun _ _ _ _ _ _ us hl => match us, hl with | [_, _, _, _], _ => rfl, .nil⟩⟩
  have d__law_mixed : Dn P w K mg base CX0 1 "_law_mixed" ["_law_cell", "_law_k"] [] (sp__law_mixed K) := ⟨⟨_, _, [], ok__law_mixed F__law_mixed T , He.glo_ok X G (c.fact 1 (f := .glo "_law_mixed") rfl), F__law_mixed.kp, FunD.bindsN F__law_mixed fun _ _ _ _ _ _ us hl => match us, hl with | [_, _], _ => rfl, .nil⟩⟩
  have d__law_take : Dn P w K mg base CX0 2 "_law_take" ["_law_pot_here", "_law_many"] [] (sp__law_take K) := ⟨⟨_, _, [], ok__law_take F__law_take T d__law_mixed, He.glo_ok X G (c.fact 2 (f := .glo "_law_take") rfl), F__law_take.kp, FunD.bindsN F__law_take fun _ _ _ _ _ _ us hl => match us, hl with | [_, _], _ => rfl, .nil⟩⟩
  have d__law_pot : Dn P w K mg base CX0 1 "_law_pot" ["_law_cell"] [] (sp__law_pot K) := ⟨⟨_, _, [], ok__law_pot F__law_pot T , He.glo_ok X G (c.fact 3 (f := .glo "_law_pot") rfl), F__law_pot.kp, FunD.bindsN F__law_pot fun _ _ _ _ _ _ us hl => match us, hl with | [_], _ => rfl, .nil⟩⟩
  have d__law_one : Dn P w K mg base CX0 3 "_law_one" ["_law_cell"] [] (sp__law_one K) := ⟨⟨_, _, [], ok__law_one F__law_one T d__law_pot d__law_take d_aim, He.glo_ok X G (c.fact 4 (f := .glo "_law_one") rfl), F__law_one.kp, FunD.bindsN F__law_one fun _ _ _ _ _ _ us hl => match us, hl with | [_], _ => rfl, .nil⟩⟩
  exact ok_law F_law T d__law_one
end L2.Toy
open PySem PySem.W PySem.Calls PyProof.Rows
set_option maxRecDepth 100000 in
set_option maxHeartbeats 0 in
theorem PySem.Challenge.cw_inningsbook_k63_aims_holds : PySem.Challenge.rw_inningsbook_k63_aims.Holds := by
  w_on; o_law
  refine HandSHeadRun.head_any (r := OpenLaw.row PySem.Challenge.rw_inningsbook_k63_aims) (q := view (OpenLaw.row PySem.Challenge.rw_inningsbook_k63_aims).prog [7]) (H := L2.Toy.hk) (ob := L2.Toy.ob) (M := 2000) (loose := L2.Toy.loose) (d := HandSHeadRun.topDef (OpenLaw.row PySem.Challenge.rw_inningsbook_k63_aims).prog 7) (kwd := []) L2.Toy.ob_eq
    (by kernel_rfl) (fun s => by kernel_rfl) L2.Toy.run (by kernel_rfl) (by kernel_rfl) (by kernel_rfl) (by rfl) (by first | assumption | decide +kernel) (by decide +kernel) ⟨rfl, rfl, rfl, rfl, rfl, by decide +kernel⟩ ?hw ?hc
  case hw => w_witness2
  case hc =>
    refine L2.walk_ofE (l := PySem.Challenge.rw_inningsbook_k63_aims) (n := 63) (k := 4) (x := "_law_script") (CX := L2.CX0) rfl (by decide) (by kernel_rfl) ⟨rfl, by decide, by decide⟩ ?F (fun _ _ _ _ z => z)
    intro w mg fa h Y G hmg0
    obtain ⟨K, KX, c⟩ := Y
    have hmg : mg ("law" : PySem.Str) = some (.ref fa) := by
      have e : (HandSHeadRun.topDef (OpenLaw.row PySem.Challenge.rw_inningsbook_k63_aims).prog 7).name = ("law" : PySem.Str) := by kernel_rfl
      rw [← e]
      exact hmg0
    obtain ⟨fd, hb, hF⟩ := L2.Toy.facts (P := (PySem.Challenge.rw_inningsbook_k63_aims).prog) (w := w) KX G hmg c
    exact ⟨K, fd, L2.Toy.sp_law K, KX, hb, fun H a ns hl _ hS => ⟨L2.V.ref a, rfl, a, ns, rfl, hS, hl, fun _ => rfl⟩, hF⟩
#print axioms PySem.Challenge.cw_inningsbook_k63_aims_holds

