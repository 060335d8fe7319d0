import PyProof.Rows.All
import Wide.All
import OpenK.AllK
import Wide.FinOn
import KE.KStateDown
import Lean
import HandS.ForMost
import HandS.Steps
import HandS.IsInst
import HandS.More
import HandS.Exc
import HandS.WordsExc
import HandS.Defaults
import HandS.Head0
import HandS.Head1
import HandS.Head2
import HandS.HeadEnd
import HandS.HeadHook1
import HandS.HeadHook2
import HandS.Style
import HandS.TupLe
import HandS.Rev
import HandS.RevRange
import HandS.DictTup
import HandS.RaiseFrom
import HandS.SuiteRaise
import HandS.SetKeys
import HandS.ExcInit
import HandS.ExcField
import PySem.Challenge.RW_inningsbook_k12_what_sums_hang_on
set_option Elab.async false
set_option linter.all false
set_option maxRecDepth 100000
set_option maxHeartbeats 4000000

namespace L2.A
open PySem PySem.Spec PyProof.Rows
/-! a layer of our own over HandS: defs by name, operators for every kind of value, one step a construct -/
/-- what is at fp may change, the rest stays -/
def Kp (fp : Addr → Prop) (H H' : Hp) : Prop := ∀ a o, H a = some o → ¬ fp a → H' a = some o
theorem Kp.same {fp : Addr → Prop} {H H' : Hp} (h : Same H H') : Kp fp H H' := fun a o e _ => h a o e
theorem Kp.refl {fp : Addr → Prop} {H : Hp} : Kp fp H H := fun _ _ e _ => e
theorem Kp.trans {fp : Addr → Prop} {H H1 H2 : Hp} (a : Kp fp H H1) (b : Kp fp H1 H2) : Kp fp H H2 := fun x o e n => b x o (a x o e n) n
theorem Kp.upd {H : Hp} {p : Addr} {o : HO} : Kp (fun a => a = p) H (upd H p o) := fun a u e n => by rw [upd_ne n]; exact e
theorem same_new {H : Hp} {p : Addr} {o : HO} (h : H p = none) : Same H (upd H p o) := fun a u e => by rw [upd_ne (ne_of_none e h)]; exact e
theorem same_new2 {H H' : Hp} {p : Addr} {o : HO} (s : Same H H') (h : H' p = none) : Same H (upd H' p o) := s.trans (same_new h)
/-- an object that H does not know may change -/
theorem same_mut {H H' : Hp} {p : Addr} {o : HO} (s : Same H H') (h : H p = none) : Same H (upd H' p o) := fun a u e => by rw [upd_ne (ne_of_none e h)]; exact s a u e
theorem same_kp {H H1 H2 : Hp} {p : Addr} (s : Same H H1) (k : Kp (fun a => a = p) H1 H2) (h : H p = none) : Same H H2 := fun a o e => k a o (s a o e) (ne_of_none e h)
theorem ge_same {H H' : Hp} {a : Addr} {o : HO} (s : Same H H') (h : H a = some o) : H' a = some o := s a o h

section
variable {P : Program} {w : World} {K : PySem.W.Frag} {mg : Str → Option Value} {base : Heap} {CX : CXT} {k : Nat}
/-- a def of the top by its name -/
structure Dn (P : Program) (w : World) (K : PySem.W.Frag) (mg : Str → Option Value) (base : Heap) (CX : CXT) (k : Nat) (x : Str) (ps : List Str) (dvs : List V) (sp : Sp) : Prop where
  ex : ∃ (f : Addr) (fd : FuncData) (ds : List Value), FnOk P w K mg base CX k f fd ps sp ∧ mg x = some (.ref f) ∧ PySem.W.keepIn K (.ref f) = true ∧ Binds K fd ps ds ∧ Vals dvs ds
end
section
variable {X : Cx} {CX : CXT} {k : Nat} {ps : List Str} {dvs : List V} {sp : Sp} {E : XK} {x : Str} {p pos : Pos} {e : Expr} {es : List Expr} {t : TA}
theorem pe_d (D : Dn X.prog X.w X.K X.mg X.base CX k x ps dvs sp) (hr : Room k X.A) (hg : Gl X x) (hx : Passes CX X E) (ha : PA X (e :: es) t) (hdb : (x == ("__debug__" : Str)) = false := by decide)
    (he : starEach (e :: es) X.env = (false, eval e X.env) :: starEach es X.env := by rfl) (hpl : (backTo pos (starEach es X.env)).any (·.1) = false := by rfl) : PE X (.Call (.Name x p) (e :: es) [] pos) (tCall sp dvs E t) := by
  obtain ⟨f, fd, ds, F, hm, hk, hb, hv⟩ := D.ex
  exact pe_call F hr hg hm hk hb hv hx ha hdb he hpl
theorem pe_d0 (D : Dn X.prog X.w X.K X.mg X.base CX k x ps dvs sp) (hr : Room k X.A) (hg : Gl X x) (hx : Passes CX X E) (hdb : (x == ("__debug__" : Str)) = false := by decide) : PE X (.Call (.Name x p) [] [] pos) (tCall sp dvs E tNil) := by
  obtain ⟨f, fd, ds, F, hm, hk, hb, hv⟩ := D.ex
  exact pe_call0 F hr hg hm hk hb hv hx hdb
end

/-! ### steps -/
section
variable {t u : TS} {D : Ends} {σ σ' : St} {H : Hp} {te ta tb tc : TE} {g : TG} {v : V} {i : Nat} {Q : VK} {r r' : R2} {tt tu : TT} {QB : Bool → Hp → Prop} {QS : St → Hp → Prop} {ts : TA} {QL : List V → Hp → Prop} {K : PySem.W.Frag}
theorem go_seq (h : t { D with nx := u D } σ H) : tSeq t u D σ H := h
theorem go_asg (h : te σ H fun x H1 => g x σ H1 D.nx) : tAsg te g D σ H := h
theorem go_name (e : σ.set i (some v) = σ') (h : QS σ' H) : gName i v σ H QS := by show QS (σ.set i (some v)) H; rw [e]; exact h
theorem go_var (e : σ[i]? = some (some v)) (h : Q v H) : tVar i σ H Q := ⟨v, e, h⟩
theorem go_c (h : Q v H) : tC v σ H Q := h
theorem go_op (h : ta σ H fun x H1 => tb σ H1 fun y H2 => r x y H2 Q) : tOp r ta tb σ H Q := h
theorem go_un {ru : V → Hp → VK → Prop} (h : ta σ H fun x H1 => ru x H1 Q) : tUn ru ta σ H Q := h
theorem go_I0 {f : Int → Int → V} {a b : Int} (h : Q (f a b) H) : rI0 f (.int a) (.int b) H Q := ⟨a, b, rfl, rfl, h⟩
theorem go_I {C : Int → Int → Prop} {f : Int → Int → V} {a b : Int} (c : C a b) (h : Q (f a b) H) : rI C f (.int a) (.int b) H Q := ⟨a, b, rfl, rfl, c, h⟩
theorem go_U {f : Int → V} {a : Int} (h : Q (f a) H) : rU f (.int a) H Q := ⟨a, rfl, h⟩
theorem go_ret (h : te σ H D.rt) : tRet te D σ H := h
theorem go_retN (h : D.rt .non H) : tRetN D σ H := h
theorem go_next (h : D.nx σ H) : tNext D σ H := h
theorem go_brk (h : D.bk σ H) : tBreak D σ H := h
theorem go_ct (h : D.ct σ H) : tCont D σ H := h
theorem go_if (h : tt σ H fun b H1 => if b = true then t D σ H1 else u D σ H1) : tIfS tt t u D σ H := h
theorem go_ifx (h : tt σ H fun c H1 => if c = true then ta σ H1 Q else tb σ H1 Q) : tIf tt ta tb σ H Q := h
def KB (x : V) (H : Hp) (QB : Bool → Hp → Prop) : Prop := ∃ k, x = .bl k ∧ QB k H
theorem go_test (h : te σ H fun x H' => KB x H' QB) : tTest te σ H QB := h
theorem go_B (h : te σ H fun x H' => KB x H' QB) : tB te σ H QB := h
theorem go_bl {b : Bool} (h : QB b H) : KB (.bl b) H QB := ⟨b, rfl, h⟩
theorem go_not (h : tt σ H fun c H1 => QB (!c) H1) : tNot tt σ H QB := h
theorem go_and (h : tt σ H fun c H1 => if c = true then tu σ H1 QB else QB false H1) : tAnd tt tu σ H QB := h
theorem go_or (h : tt σ H fun c H1 => if c = true then QB true H1 else tu σ H1 QB) : tOr tt tu σ H QB := h
theorem go_andV (h : ta σ H fun x H1 => KB x H1 fun c H1 => if c = true then tb σ H1 Q else Q (.bl false) H1) : tAndV ta tb σ H Q := h
theorem go_orV (h : ta σ H fun x H1 => KB x H1 fun c H1 => if c = true then Q (.bl true) H1 else tb σ H1 Q) : tOrV ta tb σ H Q := h
theorem go_notV (h : ta σ H fun x H1 => KB x H1 fun c H1 => Q (.bl (!c)) H1) : tNotV ta σ H Q := h
theorem go_drop (h : te σ H fun _ H1 => D.nx σ H1) : tDrop te D σ H := h
theorem go_nil (h : QL [] H) : tNil σ H QL := h
theorem go_cons (h : te σ H fun x H1 => ts σ H1 fun xs H2 => QL (x :: xs) H2) : tCons te ts σ H QL := h
def NewO (o : HO) (H : Hp) (Q : VK) : Prop := ∀ p, H p = none → Q (.ref p) (upd H p o)
def NewT (xs : List V) (H : Hp) (Q : VK) : Prop := xs.length ≤ sizeLine ∧ NewO (.tup xs) H Q
def NewL (xs : List V) (H : Hp) (Q : VK) : Prop := xs.length ≤ sizeLine ∧ NewO (.lst xs) H Q
theorem go_tup (h : ts σ H fun xs H1 => NewT xs H1 Q) : tTup ts σ H Q := h
theorem go_lst (h : ts σ H fun xs H1 => NewL xs H1 Q) : tLst ts σ H Q := h
theorem go_newT {xs : List V} (e : Nat.ble xs.length 1000 = true) (h : NewO (.tup xs) H Q) : NewT xs H Q := ⟨Nat.le_trans (Nat.le_of_ble_eq_true e) (by decide), h⟩
theorem go_newL {xs : List V} (e : Nat.ble xs.length 1000 = true) (h : NewO (.lst xs) H Q) : NewL xs H Q := ⟨Nat.le_trans (Nat.le_of_ble_eq_true e) (by decide), h⟩
theorem go_CB {rc : List V → Hp → VK → Prop} (h : ts σ H fun vs H1 => rc vs H1 Q) : tCB rc ts σ H Q := h
theorem go_call {sp : Sp} {dvs : List V} {E : XK} (h : ts σ H fun vs H1 => sp (vs ++ dvs) H1 Q E) : tCall sp dvs E ts σ H Q := h
theorem go_eq {x y : V} (e : scal x y = true) (h : Q (.bl (decide (x = y))) H) : rEq x y H Q := ⟨e, h⟩
theorem go_ne {x y : V} (e : scal x y = true) (h : Q (.bl (!decide (x = y))) H) : rNe x y H Q := ⟨e, h⟩
theorem go_chain (h : ta σ H fun x H1 => tb σ H1 fun y H2 => r x y H2 fun z H3 => KB z H3 fun k H3 => (if k = true then tc σ H3 fun w' H4 => r' y w' H4 Q else Q (.bl false) H3)) : tChain r r' ta tb tc σ H Q := h
theorem go_gtup {n : Nat} {tg : TGs} {a : Addr} {xs : List V} (hs : SqT K H a xs) (hl : xs.length = n) (h : tg xs σ H QS) : gTup K n tg (.ref a) σ H QS := ⟨a, xs, rfl, hs, hl, h⟩
theorem go_gcons {tg : TGs} {vs : List V} (h : g v σ H fun σ' H' => tg vs σ' H' QS) : gCons g tg (v :: vs) σ H QS := ⟨v, vs, rfl, h⟩
theorem go_gnil (h : QS σ H) : gNil [] σ H QS := ⟨rfl, h⟩
theorem go_nx {a : St → Hp → Prop} {b : VK} {c d : St → Hp → Prop} (h : a σ H) : Ends.nx ⟨a, b, c, d⟩ σ H := h
theorem go_rt {a : St → Hp → Prop} {b : VK} {c d : St → Hp → Prop} (h : b v H) : Ends.rt ⟨a, b, c, d⟩ v H := h
theorem go_bk {a : St → Hp → Prop} {b : VK} {c d : St → Hp → Prop} (h : c σ H) : Ends.bk ⟨a, b, c, d⟩ σ H := h
theorem go_ctx {a : St → Hp → Prop} {b : VK} {c d : St → Hp → Prop} (h : d σ H) : Ends.ct ⟨a, b, c, d⟩ σ H := h
theorem go_sub {to ti : TE} {ps : TSet} (h : to σ H fun o H1 => ti σ H1 fun i H2 => ps o i v H2 fun H3 => QS σ H3) : gSub to ti ps v σ H QS := h
theorem iteNT {A B : Prop} (h : B) : if (!true) = true then A else B := by rw [if_neg (by decide)]; exact h
theorem iteNF {A B : Prop} (h : A) : if (!false) = true then A else B := by rw [if_pos (by decide)]; exact h
theorem if2 {b : Bool} {A B : Prop} (h1 : b = true → A) (h2 : b = false → B) : if b = true then A else B := by
  cases b with
  | true => exact h1 rfl
  | false => exact h2 rfl
end
end L2.A

namespace L2.A
open PySem PySem.Spec PyProof.Rows
/-! ### operators for every kind of value -/
theorem boot_len : bootBuiltins "len" = some (.builtin "len") := by decide +kernel
theorem boot_isinstance : bootBuiltins "isinstance" = some (.builtin "isinstance") := by decide +kernel
theorem boot_sum : bootBuiltins "sum" = some (.builtin "sum") := by decide +kernel
theorem boot_max : bootBuiltins "max" = some (.builtin "max") := by decide +kernel
theorem boot_min : bootBuiltins "min" = some (.builtin "min") := by decide +kernel
theorem boot_all : bootBuiltins "all" = some (.builtin "all") := by decide +kernel
theorem boot_any : bootBuiltins "any" = some (.builtin "any") := by decide +kernel
theorem boot_abs : bootBuiltins "abs" = some (.builtin "abs") := by decide +kernel
theorem boot_sorted : bootBuiltins "sorted" = some (.builtin "sorted") := by decide +kernel
theorem boot_int : bootBuiltins "int" = some (.type "int") := by decide +kernel
theorem boot_str : bootBuiltins "str" = some (.type "str") := by decide +kernel
theorem boot_bool : bootBuiltins "bool" = some (.type "bool") := by decide +kernel
theorem boot_list : bootBuiltins "list" = some (.type "list") := by decide +kernel
theorem boot_tuple : bootBuiltins "tuple" = some (.type "tuple") := by decide +kernel
theorem boot_dict : bootBuiltins "dict" = some (.type "dict") := by decide +kernel
theorem boot_set : bootBuiltins "set" = some (.type "set") := by decide +kernel
theorem boot_ValueError : bootBuiltins "ValueError" = some (.type "ValueError") := by decide +kernel
section
variable {X : Cx} {K : PySem.W.Frag} {H : Hp} {Q : VK} {v : V}
abbrev rStrA : R2 := fun x y H Q => ∃ i j, x = .str i ∧ y = .str j ∧ i.length + j.length ≤ sizeLine ∧ Q (.str (i ++ j)) H
abbrev rIntB : R2 := fun x y H Q => ∃ i k, x = .int i ∧ y = .bl k ∧ Q (.int (i + b2i k)) H
def rAddX (K : PySem.W.Frag) : R2 := fun x y H Q => rI0 (fun i j => .int (i + j)) x y H Q ∨ rStrA x y H Q ∨ rCat x y H Q ∨ rCatT K x y H Q ∨ rIntB x y H Q
theorem op_addX : OpR X (binaryOp .Add) (rAddX X.K) := op_add.or (op_add_str.or (op_cat.or (op_catT.or op_add_ib)))
theorem go_addI {a b : Int} (h : Q (.int (a + b)) H) : rAddX K (.int a) (.int b) H Q := .inl ⟨a, b, rfl, rfl, h⟩
theorem go_addS {a b : Str} (z : a.length + b.length ≤ sizeLine) (h : Q (.str (a ++ b)) H) : rAddX K (.str a) (.str b) H Q := .inr (.inl ⟨a, b, rfl, rfl, z, h⟩)
theorem go_addB {a : Int} {b : Bool} (h : Q (.int (a + b2i b)) H) : rAddX K (.int a) (.bl b) H Q := .inr (.inr (.inr (.inr ⟨a, b, rfl, rfl, h⟩)))
theorem go_addL {p q : Addr} {xs ys : List V} (hp : H p = some (.lst xs)) (hq : H q = some (.lst ys)) (z : xs.length + ys.length ≤ sizeLine) (h : NewO (.lst (xs ++ ys)) H Q) : rAddX K (.ref p) (.ref q) H Q :=
  .inr (.inr (.inl ⟨p, q, xs, ys, rfl, rfl, hp, hq, z, h⟩))
theorem go_addT {p q : Addr} {x : V} {xs : List V} {y : V} {ys : List V} (hp : SqT K H p (x :: xs)) (hq : SqT K H q (y :: ys)) (z : (x :: xs).length + (y :: ys).length ≤ sizeLine) (h : NewO (.tup (x :: xs ++ y :: ys)) H Q) : rAddX K (.ref p) (.ref q) H Q :=
  .inr (.inr (.inr (.inl ⟨p, q, _, _, rfl, rfl, hp, hq, by simp, z, (fun e => nomatch e), fun _ => h⟩)))
/-- whole numbers, or a list so many times -/
def rMulX : R2 := fun x y H Q => rI CMul (fun i j => .int (i * j)) x y H Q ∨ rRep x y H Q
theorem op_mulX : OpR X (binaryOp .Mult) rMulX := op_mul.or op_rep
theorem go_mulI {a b : Int} (c : CMul a b) (h : Q (.int (a * b)) H) : rMulX (.int a) (.int b) H Q := .inl ⟨a, b, rfl, rfl, c, h⟩
/-- == -/
def rEqX (K : PySem.W.Frag) : R2 := fun x y H Q => rEq x y H Q ∨ rEqD K x y H Q
def rNeX (K : PySem.W.Frag) : R2 := fun x y H Q => rNe x y H Q ∨ rNeD K x y H Q
theorem op_eqX (hu : X.A.units + 64 < cLine) : OpR X (compareOp .Eq) (rEqX X.K) := op_eq.or (op_eqD hu)
theorem op_neX (hu : X.A.units + 64 < cLine) : OpR X (compareOp .NotEq) (rNeX X.K) := op_ne.or (op_neD hu)
theorem go_eqS {x y : V} (e : scal x y = true) (h : Q (.bl (decide (x = y))) H) : rEqX K x y H Q := .inl ⟨e, h⟩
theorem go_neS {x y : V} (e : scal x y = true) (h : Q (.bl (!decide (x = y))) H) : rNeX K x y H Q := .inl ⟨e, h⟩
/-- in -/
theorem op_in_d (hu : X.A.units + 1 < cLine) : OpR X (compareOp .In) (fun y x H Q => ∃ a o, x = .ref a ∧ DGet H a y o ∧ Q (.bl o.isSome) H) := by
  intro pins s σ H y x iv u Q I ry rx h
  obtain ⟨a, o, rfl, g, q⟩ := h
  cases rx
  exact d_in hu I g ry fun s3 I3 => ⟨.bl o.isSome, H, I3, rfl, q⟩
theorem op_notIn_d (hu : X.A.units + 1 < cLine) : OpR X (compareOp .NotIn) (fun y x H Q => ∃ a o, x = .ref a ∧ DGet H a y o ∧ Q (.bl (!o.isSome)) H) := by
  intro pins s σ H y x iv u Q I ry rx h
  obtain ⟨a, o, rfl, g, q⟩ := h
  cases rx
  exact d_notIn hu I g ry fun s3 I3 => ⟨.bl (!o.isSome), H, I3, rfl, q⟩
abbrev rInD : R2 := fun y x H Q => ∃ a o, x = .ref a ∧ DGet H a y o ∧ Q (.bl o.isSome) H
abbrev rNotInD : R2 := fun y x H Q => ∃ a o, x = .ref a ∧ DGet H a y o ∧ Q (.bl (!o.isSome)) H
def rInX (K : PySem.W.Frag) : R2 := fun x y H Q => rIn K false x y H Q ∨ rInS x y H Q ∨ rInD x y H Q
def rNotInX (K : PySem.W.Frag) : R2 := fun x y H Q => rIn K true x y H Q ∨ rNotInS x y H Q ∨ rNotInD x y H Q
theorem op_inX (hu : X.A.units + 1 < cLine) : OpR X (compareOp .In) (rInX X.K) := op_in_seq.or (op_inS.or (op_in_d hu))
theorem op_notInX (hu : X.A.units + 1 < cLine) : OpR X (compareOp .NotIn) (rNotInX X.K) := op_notIn_seq.or (op_notInS.or (op_notIn_d hu))
theorem go_inL {x : V} {p : Addr} {xs : List V} (hp : SqL K H p xs) (fx : flatV x = true) (fs : xs.all flatV = true) (h : Q (.bl (inV x xs)) H) : rInX K x (.ref p) H Q := .inl ⟨p, xs, rfl, .inl hp, fx, fs, h⟩
theorem go_inT {x : V} {p : Addr} {xs : List V} (hp : SqT K H p xs) (fx : flatV x = true) (fs : xs.all flatV = true) (h : Q (.bl (inV x xs)) H) : rInX K x (.ref p) H Q := .inl ⟨p, xs, rfl, .inr hp, fx, fs, h⟩
theorem go_inSg {c : Nat} {z : Str} (h : Q (.bl (decide (c ∈ z.cps.toList))) H) : rInX K (.str ⟨#[c]⟩) (.str z) H Q := .inr (.inl ⟨c, z, rfl, rfl, h⟩)
theorem go_inK {p : Addr} {kvs : List (Key × V)} (k : Key) (hp : H p = some (.dK kvs)) (h : Q (.bl (valV kvs k).isSome) H) : rInX K (kV k) (.ref p) H Q := .inr (.inr ⟨p, _, rfl, DGet.k hp, h⟩)
theorem go_ninL {x : V} {p : Addr} {xs : List V} (hp : SqL K H p xs) (fx : flatV x = true) (fs : xs.all flatV = true) (h : Q (.bl (!inV x xs)) H) : rNotInX K x (.ref p) H Q := .inl ⟨p, xs, rfl, .inl hp, fx, fs, h⟩
theorem go_ninT {x : V} {p : Addr} {xs : List V} (hp : SqT K H p xs) (fx : flatV x = true) (fs : xs.all flatV = true) (h : Q (.bl (!inV x xs)) H) : rNotInX K x (.ref p) H Q := .inl ⟨p, xs, rfl, .inr hp, fx, fs, h⟩
theorem go_ninSg {c : Nat} {z : Str} (h : Q (.bl (!decide (c ∈ z.cps.toList))) H) : rNotInX K (.str ⟨#[c]⟩) (.str z) H Q := .inr (.inl ⟨c, z, rfl, rfl, h⟩)
theorem go_ninK {p : Addr} {kvs : List (Key × V)} (k : Key) (hp : H p = some (.dK kvs)) (h : Q (.bl (!(valV kvs k).isSome)) H) : rNotInX K (kV k) (.ref p) H Q := .inr (.inr ⟨p, _, rfl, DGet.k hp, h⟩)
/-- is: None alone, or a truth -/
abbrev rIsO : R2 := fun x y H Q => ∃ a b oa ob, x = .ref a ∧ y = .ref b ∧ H a = some oa ∧ isObj oa = true ∧ H b = some ob ∧ isObj ob = true ∧ Q (.bl (decide (a = b))) H
abbrev rNotO : R2 := fun x y H Q => ∃ a b oa ob, x = .ref a ∧ y = .ref b ∧ H a = some oa ∧ isObj oa = true ∧ H b = some ob ∧ isObj ob = true ∧ Q (.bl (!decide (a = b))) H
abbrev rIsC (K : PySem.W.Frag) : R2 := fun x y H Q => ∃ a b, x = V.ref a ∧ y = V.ref b ∧ (a = b ∨ (PySem.W.makesIn K a = true ∧ PySem.W.makesIn K b = true)) ∧ Q (.bl (decide (a = b))) H
abbrev rNotC (K : PySem.W.Frag) : R2 := fun x y H Q => ∃ a b, x = V.ref a ∧ y = V.ref b ∧ (a = b ∨ (PySem.W.makesIn K a = true ∧ PySem.W.makesIn K b = true)) ∧ Q (.bl (!decide (a = b))) H
def rIsX (K : PySem.W.Frag) : R2 := fun x y H Q => rIsN x y H Q ∨ rIsB x y H Q ∨ rIsO x y H Q ∨ rIsC K x y H Q
def rIsNotX (K : PySem.W.Frag) : R2 := fun x y H Q => rNotN x y H Q ∨ rNotB x y H Q ∨ rNotO x y H Q ∨ rNotC K x y H Q
theorem op_isX : OpR X (compareOp .Is) (rIsX X.K) := op_isN1.or (op_isBl.or (op_is_ref.or op_is_cls))
theorem op_isNotX : OpR X (compareOp .IsNot) (rIsNotX X.K) := op_notN1.or (op_notBl.or (op_isnot_ref.or op_isnot_cls))
theorem go_isN {x : V} (h : Q (.bl (decide (x = .non))) H) : rIsX K x .non H Q := .inl ⟨rfl, h⟩
theorem go_notN {x : V} (h : Q (.bl (!decide (x = .non))) H) : rIsNotX K x .non H Q := .inl ⟨rfl, h⟩
theorem go_isB {a b : Bool} (h : Q (.bl (decide (a = b))) H) : rIsX K (.bl a) (.bl b) H Q := .inr (.inl ⟨_, _, rfl, rfl, h⟩)
theorem go_notB {a b : Bool} (h : Q (.bl (!decide (a = b))) H) : rIsNotX K (.bl a) (.bl b) H Q := .inr (.inl ⟨_, _, rfl, rfl, h⟩)
/-- o[i] -/
abbrev rIxD : R2 := fun x y H Q => ∃ a v, x = .ref a ∧ DGet H a y (some v) ∧ Q v H
theorem ix_dict (hu : X.A.units + 1 < cLine) : IxR X rIxD := by
  intro value slice pins s σ H x y v u Q I rx ry h hs
  obtain ⟨a, z, rfl, g, q⟩ := h
  cases rx
  exact tail_any (dict_typeIs I g) PySem.F.slot_dict_getitem.lookup (d_getItem hu I g ry fun w' s3 I3 rw' => ⟨z, H, I3, rw', q⟩) hs
def rIxX (K : PySem.W.Frag) : R2 := fun x y H Q => rIxL K x y H Q ∨ rIxT K x y H Q ∨ rIxS x y H Q ∨ rIxD x y H Q
theorem ix_X (hu : X.A.units + 1 < cLine) : IxR X (rIxX X.K) := ix_list.or (ix_tup.or (ix_str.or (ix_dict hu)))
theorem go_xL {p : Addr} {xs : List V} {j : Int} (hp : SqL K H p xs) (ha : atI xs j = some v) (h : Q v H) : rIxX K (.ref p) (.int j) H Q := .inl ⟨p, xs, j, v, rfl, rfl, hp, ha, h⟩
theorem go_xT {p : Addr} {xs : List V} {j : Int} (hp : SqT K H p xs) (ha : atI xs j = some v) (h : Q v H) : rIxX K (.ref p) (.int j) H Q := .inr (.inl ⟨p, xs, j, v, rfl, rfl, hp, ha, h⟩)
theorem go_xS {z : Str} {j : Int} {c : Nat} (hz : z.length ≤ sizeLine) (ha : atI z.cps.toList j = some c) (h : Q (.str ⟨#[c]⟩) H) : rIxX K (.str z) (.int j) H Q := .inr (.inr (.inl ⟨z, j, c, rfl, rfl, hz, ha, h⟩))
theorem go_xK {p : Addr} {kvs : List (Key × V)} (k : Key) (hp : H p = some (.dK kvs)) (hv : valV kvs k = some v) (h : Q v H) : rIxX K (.ref p) (kV k) H Q := .inr (.inr (.inr ⟨p, v, rfl, hv ▸ DGet.k hp, h⟩))
theorem go_xKs {p : Addr} {kvs : List (Key × V)} {z : Str} (hp : H p = some (.dK kvs)) (hv : valV kvs (Sum.inr z) = some v) (h : Q v H) : rIxX K (.ref p) (.str z) H Q := go_xK (Sum.inr z) hp hv h
/-- o[i] = e -/
theorem PSet.or {r r' : TSet} (h : PSet X r) (h' : PSet X r') : PSet X (fun o i v H Q => r o i v H Q ∨ r' o i v H Q) := by
  intro pins s σ H o i v ov iv u Q I ro ri rv q
  rcases q with q | q
  · exact h pins s σ H o i v ov iv u Q I ro ri rv q
  · exact h' pins s σ H o i v ov iv u Q I ro ri rv q
abbrev rSetD : TSet := fun o i v H Q => ∃ a H4, o = .ref a ∧ DPut H a i v H4 ∧ Q H4
theorem set_dict (hu : X.A.units + 1 < cLine) : PSet X rSetD := by
  intro pins s σ H o i v ov iv u Q I ro ri rv h
  obtain ⟨a, H4, rfl, g, q⟩ := h
  cases ro
  exact d_setItem hu I g ri rv fun s4 I4 => ⟨H4, I4, q⟩
def rSetX : TSet := fun o i v H Q => rSetL o i v H Q ∨ rSetD o i v H Q
theorem set_X (hu : X.A.units + 1 < cLine) : PSet X rSetX := PSet.or set_list (set_dict hu)
variable {QH : Hp → Prop}
theorem go_sL {l : Addr} {xs : List V} {j : Int} {n : Nat} (hl : H l = some (.lst xs)) (hj : ixN xs.length j = some n) (h : QH (upd H l (.lst (xs.set n v)))) : rSetX (.ref l) (.int j) v H QH := .inl ⟨l, xs, j, n, rfl, rfl, hl, hj, h⟩
theorem go_sK {p : Addr} {kvs : List (Key × V)} (k : Key) (hp : H p = some (.dK kvs)) (z : kvs.length < sizeLine) (h : QH (upd H p (.dK (putK kvs k v)))) : rSetX (.ref p) (kV k) v H QH := .inr ⟨p, _, rfl, DPut.k hp z, h⟩
theorem go_sKs {p : Addr} {kvs : List (Key × V)} {x : Str} (hp : H p = some (.dK kvs)) (z : kvs.length < sizeLine) (h : QH (upd H p (.dK (putK kvs (Sum.inr x) v)))) : rSetX (.ref p) (.str x) v H QH := go_sK (Sum.inr x) hp z h
/-- slices -/
abbrev rSlS : V → Option Int → Option Int → Hp → VK → Prop := fun x lo hi H Q => ∃ z, x = .str z ∧ z.length ≤ sizeLine ∧ Q (.str (cutS z lo hi)) H
def rSlX (K : PySem.W.Frag) : V → Option Int → Option Int → Hp → VK → Prop := fun x lo hi H Q => rSlL K x lo hi H Q ∨ rSlT K x lo hi H Q ∨ rSlS x lo hi H Q
theorem sl_X : SlR X (rSlX X.K) := sl_list.or (sl_tup.or sl_str)
/-- len, int, isinstance, truth -/
abbrev rLenD : List V → Hp → VK → Prop := fun xs H Q => ∃ a kvs, xs = [V.ref a] ∧ H a = some (.dK kvs) ∧ Q (.int kvs.length) H
abbrev rLenV (K : PySem.W.Frag) : List V → Hp → VK → Prop := fun xs H Q => ∃ x n, xs = [x] ∧ LenV K x H n ∧ Q (.int n) H
def rLenX (K : PySem.W.Frag) : List V → Hp → VK → Prop := fun xs H Q => rLenV K xs H Q ∨ rLenD xs H Q
theorem call_lenX : CallR X (.builtin "len") (rLenX X.K) := call_len.or call_lenD
theorem go_lenL {p : Addr} {xs : List V} (hp : SqL K H p xs) (h : Q (.int xs.length) H) : rLenX K [.ref p] H Q := .inl ⟨_, _, rfl, .inl ⟨xs, hp, rfl⟩, h⟩
theorem go_lenT {p : Addr} {xs : List V} (hp : SqT K H p xs) (h : Q (.int xs.length) H) : rLenX K [.ref p] H Q := .inl ⟨_, _, rfl, .inr ⟨xs, hp, rfl⟩, h⟩
theorem go_lenS {z : Str} (hz : z.length ≤ sizeLine) (h : Q (.int z.length) H) : rLenX K [.str z] H Q := .inl ⟨.str z, z.length, rfl, ⟨hz, rfl⟩, h⟩
theorem go_lenD {p : Addr} {kvs : List (Key × V)} (hp : H p = some (.dK kvs)) (h : Q (.int kvs.length) H) : rLenX K [.ref p] H Q := .inr ⟨p, kvs, rfl, hp, h⟩
abbrev rInt1 : List V → Hp → VK → Prop := fun xs H Q => (∃ i, xs = [.int i] ∧ Q (.int i) H) ∨ ∃ k, xs = [.bl k] ∧ Q (.int (if k then 1 else 0)) H
abbrev rIntS : List V → Hp → VK → Prop := fun xs H Q => ∃ a n, xs = [.str a] ∧ PySem.intText? a = some n ∧ a.length ≤ 640 ∧ Q (.int n) H
def rIntX : List V → Hp → VK → Prop := fun xs H Q => rInt1 xs H Q ∨ rIntS xs H Q
theorem call_intX : CallR X (.type "int") rIntX := call_int1.or call_int_str
theorem go_intI {i : Int} (h : Q (.int i) H) : rIntX [.int i] H Q := .inl (.inl ⟨i, rfl, h⟩)
theorem go_intB {k : Bool} (h : Q (.int (if k then 1 else 0)) H) : rIntX [.bl k] H Q := .inl (.inr ⟨k, rfl, h⟩)
theorem go_intS {a : Str} {n : Int} (e : PySem.intText? a = some n) (z : a.length ≤ 640) (h : Q (.int n) H) : rIntX [.str a] H Q := .inr ⟨a, n, rfl, e, z, h⟩
def rIsiX (K : PySem.W.Frag) : List V → Hp → VK → Prop := fun xs H Q => rIsi K xs H Q ∨ rIsiT K xs H Q
theorem call_isiX : CallR X (.builtin "isinstance") (rIsiX X.K) := call_isi.or call_isiT
theorem go_isi {x : V} {T U : String} {b : Bool} (ty : TyX K H x (.type U)) (e : kitB U T = some b) (h : Q (.bl b) H) : rIsiX K [x, .ty T] H Q := .inl ⟨x, .ty T, .type U, .type T, b, rfl, .ty T, ty, kit_ty e, h⟩
def rListO (K : PySem.W.Frag) : List V → Hp → VK → Prop := fun xs H Q => ∃ p ys, xs = [.ref p] ∧ (SqL K H p ys ∨ SqT K H p ys) ∧ ∀ l, H l = none → Q (.ref l) (upd H l (.lst ys))
theorem call_listO : CallR X (.type "list") (rListO X.K) := call_list_of
def rTupO (K : PySem.W.Frag) : List V → Hp → VK → Prop := fun xs H Q => ∃ p ys, xs = [.ref p] ∧ ((SqL K H p ys ∧ ∀ l, H l = none → Q (.ref l) (upd H l (.tup ys))) ∨ (SqT K H p ys ∧ Q (.ref p) H))
theorem call_tupO : CallR X (.type "tuple") (rTupO X.K) := call_tuple_of
def rMx2 : List V → Hp → VK → Prop := fun xs H Q => ∃ i j, xs = [.int i, .int j] ∧ Q (.int (if j > i then j else i)) H
def rMn2 : List V → Hp → VK → Prop := fun xs H Q => ∃ i j, xs = [.int i, .int j] ∧ Q (.int (if j < i then j else i)) H
theorem call_mx2 (hc : X.calm = true) : CallR X (.builtin "max") rMx2 := call_max2 hc
theorem call_mn2 (hc : X.calm = true) : CallR X (.builtin "min") rMn2 := call_min2 hc
def rAbsI : List V → Hp → VK → Prop := fun xs H Q => ∃ i, xs = [.int i] ∧ Q (.int (if i < 0 then -i else i)) H
theorem call_absI : CallR X (.builtin "abs") rAbsI := call_abs
def rStrI : List V → Hp → VK → Prop := fun xs H Q => ∃ i, xs = [.int i] ∧ i.natAbs.log2 < 1920 ∧ Q (.str (toString i)) H
theorem call_strI : CallR X (.type "str") rStrI := call_str_int
theorem go_listL {l : Addr} {xs : List V} (hS : SqL K H l xs) (h : NewO (.lst xs) H Q) : rListO K [V.ref l] H Q := ⟨l, xs, rfl, .inl hS, h⟩
theorem go_listT {l : Addr} {xs : List V} (hS : SqT K H l xs) (h : NewO (.lst xs) H Q) : rListO K [V.ref l] H Q := ⟨l, xs, rfl, .inr hS, h⟩
theorem go_tupL {l : Addr} {xs : List V} (hS : SqL K H l xs) (h : NewO (.tup xs) H Q) : rTupO K [V.ref l] H Q := ⟨l, xs, rfl, .inl ⟨hS, h⟩⟩
theorem go_tupT {l : Addr} {xs : List V} (hS : SqT K H l xs) (h : Q (.ref l) H) : rTupO K [V.ref l] H Q := ⟨l, xs, rfl, .inr ⟨hS, h⟩⟩
theorem go_max {a b : Int} (h : Q (.int (max a b)) H) : rMx2 [V.int a, V.int b] H Q := ⟨a, b, rfl, by
  have e : (if b > a then b else a) = max a b := by
    by_cases c : b > a
    · rw [if_pos c]; omega
    · rw [if_neg c]; omega
  rw [e]; exact h⟩
theorem go_min {a b : Int} (h : Q (.int (min a b)) H) : rMn2 [V.int a, V.int b] H Q := ⟨a, b, rfl, by
  have e : (if b < a then b else a) = min a b := by
    by_cases c : b < a
    · rw [if_pos c]; omega
    · rw [if_neg c]; omega
  rw [e]; exact h⟩
theorem go_abs {a : Int} (h : Q (.int a.natAbs) H) : rAbsI [V.int a] H Q := ⟨a, rfl, by
  have e : (if a < 0 then -a else a) = (a.natAbs : Int) := by
    by_cases c : a < 0
    · rw [if_pos c]; omega
    · rw [if_neg c]; omega
  rw [e]; exact h⟩
theorem go_str {a : Int} (z : a.natAbs.log2 < 1920) (h : Q (.str (toString a)) H) : rStrI [V.int a] H Q := ⟨a, rfl, z, h⟩
def tTruX (K : PySem.W.Frag) (te : TE) : TT := fun σ H Q => te σ H fun x H' => ∃ k, TruV K x H' k ∧ Q k H'
theorem pt_truX {a : Expr} {ta : TE} (ha : PE X a ta) (he : ∀ whole, isTrue a X.env whole = (do let v ← whole; standAt a.pos; holding [v] (truthy v)) := by intro _; rfl) : PT X a (tTruX X.K ta) := pt_truth ha he
def KT (K : PySem.W.Frag) (x : V) (H : Hp) (QB : Bool → Hp → Prop) : Prop := ∃ k, TruV K x H k ∧ QB k H
theorem go_tru {te : TE} {σ : St} {QB : Bool → Hp → Prop} (h : te σ H fun x H' => KT K x H' QB) : tTruX K te σ H QB := h
theorem go_truB {b : Bool} {QB : Bool → Hp → Prop} (h : QB b H) : KT K (.bl b) H QB := ⟨b, rfl, h⟩
theorem go_truI {i : Int} {QB : Bool → Hp → Prop} (h : QB (i != 0) H) : KT K (.int i) H QB := ⟨_, rfl, h⟩
theorem go_truN {QB : Bool → Hp → Prop} (h : QB false H) : KT K .non H QB := ⟨_, rfl, h⟩
theorem kit_ii : kitB "int" "int" = some true := by decide +kernel
theorem kit_ib : kitB "int" "bool" = some false := by decide +kernel
theorem kit_bb : kitB "bool" "bool" = some true := by decide +kernel
theorem kit_bi : kitB "bool" "int" = some true := by decide +kernel
theorem kit_ss : kitB "str" "str" = some true := by decide +kernel
theorem kit_nb : kitB "NoneType" "bool" = some false := by decide +kernel
theorem kit_ni : kitB "NoneType" "int" = some false := by decide +kernel
theorem kit_ns : kitB "NoneType" "str" = some false := by decide +kernel
theorem kit_nt : kitB "NoneType" "tuple" = some false := by decide +kernel
theorem kit_is : kitB "int" "str" = some false := by decide +kernel
theorem kit_si : kitB "str" "int" = some false := by decide +kernel
theorem kit_sb : kitB "str" "bool" = some false := by decide +kernel
theorem kit_tt : kitB "tuple" "tuple" = some true := by decide +kernel
theorem kit_ll : kitB "list" "list" = some true := by decide +kernel
theorem kit_tl : kitB "tuple" "list" = some false := by decide +kernel
theorem kit_lt : kitB "list" "tuple" = some false := by decide +kernel
theorem kit_bs : kitB "bool" "str" = some false := by decide +kernel
/-- a list or a tuple that is walked -/
def IX (K : PySem.W.Frag) (x : V) (H1 : Hp) (R : It → Hp → Prop) : Prop := (∃ a, x = .ref a ∧ (∃ xs, SqL K H1 a xs) ∧ R (Itl K a) H1) ∨ (∃ a, x = .ref a ∧ (∃ xs, SqT K H1 a xs) ∧ R (Itt K a) H1) ∨ (∃ z, x = .str z ∧ R (Its z) H1)
def iX (K : PySem.W.Frag) (tl : TE) : TI := fun σ H R => tl σ H fun x H1 => (∃ a, x = .ref a ∧ (∃ xs, SqL K H1 a xs) ∧ R (Itl K a) H1) ∨ (∃ a, x = .ref a ∧ (∃ xs, SqT K H1 a xs) ∧ R (Itt K a) H1) ∨ (∃ z, x = .str z ∧ R (Its z) H1)
theorem pi_X {tg l : Expr} {tl : TE} (hl : PE X l tl) : PI X tg l (iX X.K tl) := by
  refine ⟨fun pins s σ H R I h => ?_⟩
  refine thn (hl.run pins s σ H _ I h) fun v s1 ⟨x, H1, I1, r1, q1⟩ => ?_
  rcases q1 with ⟨a, ex, ⟨xs, hq⟩, q⟩ | ⟨a, ex, ⟨xs, hq⟩, q⟩ | ⟨z, ex, q⟩
  · subst ex
    cases r1
    obtain ⟨its, rv, p, hz⟩ := I1.list hq
    refine wpAny_pyIter_list p.isList ?_
    refine ⟨s1.heap.objs.size, [s1.heap.objs.size], _, _, H1, rfl, I1.kept (t' := s1.toks) fun b o e => Heap.get?_push_of_some _ e, turn_list a _, ⟨_, Heap.get?_push_size _ rfl, rfl, rfl⟩, fun b hb => ?_, q⟩
    have e : b = s1.heap.objs.size := by simpa using hb
    subst e
    exact I1.fpOk (Nat.le_refl _) (I1.hok.fresh (Nat.le_refl _))
  · subst ex
    cases r1
    obtain ⟨its, rv, p, hz⟩ := I1.tuple hq
    refine wpAny_pyIter_tuple (show s1.heap.IsTuple a its.toArray from p) ?_
    refine ⟨s1.heap.objs.size, [s1.heap.objs.size], _, _, H1, rfl, I1.kept (t' := s1.toks) fun b o e => Heap.get?_push_of_some _ e, turn_tuple a _, ⟨_, Heap.get?_push_size _ rfl, rfl, rfl⟩, fun b hb => ?_, q⟩
    have e : b = s1.heap.objs.size := by simpa using hb
    subst e
    exact I1.fpOk (Nat.le_refl _) (I1.hok.fresh (Nat.le_refl _))
  · subst ex
    obtain ⟨t, rfl⟩ := r1
    cases ha : z.cps.all (· < 128)
    · exact wpAny_pyIter_wide ha (pi_one (tk := s1.toks) I1 _ (turn_str _ z t "str_iterator" (.inr rfl)) ⟨_, Heap.get?_push_size _ rfl, rfl, rfl⟩ q)
    · exact wpAny_pyIter_ascii ha (pi_one (tk := s1.toks) I1 _ (turn_str _ z t "str_ascii_iterator" (.inl rfl)) ⟨_, Heap.get?_push_size _ rfl, rfl, rfl⟩ q)
end
end L2.A

namespace L2.A
open PySem PySem.Spec PyProof.Rows
theorem go_start {t : TS} {D : Ends} {N : List Str} {vs : List V} {σ : St} {H : Hp} (e : start N vs = σ) (h : t D σ H) : t D (start N vs) H := by rw [e]; exact h
theorem ite_T {b : Bool} {A B : Prop} (e : b = true) (h : A) : if b = true then A else B := by rw [if_pos e]; exact h
theorem ite_F {b : Bool} {A B : Prop} (e : b = false) (h : B) : if b = true then A else B := by rw [e]; exact iteF h
/-- promises by the number of arguments -/
def Sp0 (R : Hp → VK → XK → Prop) : Sp := fun vs H Q E => vs = [] ∧ R H Q E
def Sp1 (R : V → Hp → VK → XK → Prop) : Sp := fun vs H Q E => ∃ a, vs = [a] ∧ R a H Q E
def Sp2 (R : V → V → Hp → VK → XK → Prop) : Sp := fun vs H Q E => ∃ a b, vs = [a, b] ∧ R a b H Q E
def Sp3 (R : V → V → V → Hp → VK → XK → Prop) : Sp := fun vs H Q E => ∃ a b c, vs = [a, b, c] ∧ R a b c H Q E
def Sp4 (R : V → V → V → V → Hp → VK → XK → Prop) : Sp := fun vs H Q E => ∃ a b c d, vs = [a, b, c, d] ∧ R a b c d H Q E
def Sp5 (R : V → V → V → V → V → Hp → VK → XK → Prop) : Sp := fun vs H Q E => ∃ a b c d e, vs = [a, b, c, d, e] ∧ R a b c d e H Q E
section
variable {vs : List V} {H : Hp} {Q : VK} {E : XK} {a b c d e : V}
theorem len0 {R} (h : Sp0 R vs H Q E) : vs.length = 0 := by obtain ⟨rfl, _⟩ := h; rfl
theorem len1 {R} (h : Sp1 R vs H Q E) : vs.length = 1 := by obtain ⟨_, rfl, _⟩ := h; rfl
theorem len2 {R} (h : Sp2 R vs H Q E) : vs.length = 2 := by obtain ⟨_, _, rfl, _⟩ := h; rfl
theorem len3 {R} (h : Sp3 R vs H Q E) : vs.length = 3 := by obtain ⟨_, _, _, rfl, _⟩ := h; rfl
theorem len4 {R} (h : Sp4 R vs H Q E) : vs.length = 4 := by obtain ⟨_, _, _, _, rfl, _⟩ := h; rfl
theorem len5 {R} (h : Sp5 R vs H Q E) : vs.length = 5 := by obtain ⟨_, _, _, _, _, rfl, _⟩ := h; rfl
theorem go_sp0 {R} (h : R H Q E) : Sp0 R ([] ++ []) H Q E := ⟨rfl, h⟩
theorem go_sp1 {R} (h : R a H Q E) : Sp1 R ([a] ++ []) H Q E := ⟨a, rfl, h⟩
theorem go_sp2 {R} (h : R a b H Q E) : Sp2 R ([a, b] ++ []) H Q E := ⟨a, b, rfl, h⟩
theorem go_sp3 {R} (h : R a b c H Q E) : Sp3 R ([a, b, c] ++ []) H Q E := ⟨a, b, c, rfl, h⟩
theorem go_sp4 {R} (h : R a b c d H Q E) : Sp4 R ([a, b, c, d] ++ []) H Q E := ⟨a, b, c, d, rfl, h⟩
theorem go_sp5 {R} (h : R a b c d e H Q E) : Sp5 R ([a, b, c, d, e] ++ []) H Q E := ⟨a, b, c, d, e, rfl, h⟩
end
end L2.A
namespace L2.A
open PySem PySem.Spec PyProof.Rows
section
variable {K : PySem.W.Frag} {H : Hp} {Q : VK} {v : V} {σ : St} {D : Ends}
def ForW (J : It) (g : TG) (tb : TS) (D : Ends) (σ : St) (H1 : Hp) : Prop := ∃ W : Nat → Nat → St → Hp → Prop, (∃ m, W 0 m σ H1) ∧ ∀ i m σ H, W i m σ H →
  (J.stop i H ∧ D.nx σ H) ∨ (J.go i H ∧ ∃ N : St → Hp → Prop, (∀ σ' H', N σ' H' → ∃ m', m' < m ∧ W (i + 1) m' σ' H') ∧ ∀ x H', J.yld i H x H' → g x σ H' fun σ2 H2 => tb { D with nx := N, ct := N, bk := D.nx } σ2 H2)
theorem go_for {wi : TI} {g : TG} {tb : TS} (h : wi σ H fun J H1 => ForW J g tb D σ H1) : tFor wi g tb D σ H := h
theorem ForW.list {a : Addr} {xs : List V} {g : TG} {tb : TS} (Pv : Nat → St → Hp → Prop) (h0 : Pv 0 σ H) (hl : ∀ i σ H, i ≤ xs.length → Pv i σ H → SqL K H a xs)
    (hs : ∀ i x σ H, xs[i]? = some x → Pv i σ H → g x σ H fun σ2 H2 => tb { D with nx := Pv (i + 1), ct := Pv (i + 1), bk := D.nx } σ2 H2) (hd : ∀ σ H, Pv xs.length σ H → D.nx σ H) : ForW (Itl K a) g tb D σ H := for_list Pv h0 hl hs hd
theorem ForW.tup {a : Addr} {xs : List V} {g : TG} {tb : TS} (Pv : Nat → St → Hp → Prop) (h0 : Pv 0 σ H) (hl : ∀ i σ H, i ≤ xs.length → Pv i σ H → SqT K H a xs)
    (hs : ∀ i x σ H, xs[i]? = some x → Pv i σ H → g x σ H fun σ2 H2 => tb { D with nx := Pv (i + 1), ct := Pv (i + 1), bk := D.nx } σ2 H2) (hd : ∀ σ H, Pv xs.length σ H → D.nx σ H) : ForW (Itt K a) g tb D σ H := for_tup Pv h0 hl hs hd
theorem ForW.range {lo : Int} {n : Nat} {g : TG} {tb : TS} (Pv : Nat → St → Hp → Prop) (h0 : Pv 0 σ H)
    (hs : ∀ i σ H, i < n → Pv i σ H → g (.int (lo + i)) σ H fun σ2 H2 => tb { D with nx := Pv (i + 1), ct := Pv (i + 1), bk := D.nx } σ2 H2) (hd : ∀ σ H, Pv n σ H → D.nx σ H) : ForW (Itr lo n) g tb D σ H := for_range Pv h0 hs hd
theorem ForW.str {z : Str} {g : TG} {tb : TS} (Pv : Nat → St → Hp → Prop) (h0 : Pv 0 σ H)
    (hs : ∀ i c σ H, z.cps.toList[i]? = some c → Pv i σ H → g (.str ⟨#[c]⟩) σ H fun σ2 H2 => tb { D with nx := Pv (i + 1), ct := Pv (i + 1), bk := D.nx } σ2 H2) (hd : ∀ σ H, Pv z.cps.toList.length σ H → D.nx σ H) : ForW (Its z) g tb D σ H := by
  refine ⟨fun i m σ H => m = z.cps.size - i ∧ i ≤ z.cps.size ∧ Pv i σ H, ⟨z.cps.size, by simp, Nat.zero_le _, h0⟩, ?_⟩
  rintro i m σ H ⟨rfl, hi, p⟩
  by_cases hlt : i < z.cps.size
  · refine .inr ⟨hlt, Pv (i + 1), fun σ' H' p' => ⟨z.cps.size - (i + 1), by omega, rfl, hlt, p'⟩, fun x H' y => ?_⟩
    obtain ⟨e, c, hc, hx⟩ := y
    subst e hx
    exact hs i c σ _ (by simpa using hc) p
  · have e : i = z.cps.size := by omega
    subst e
    exact .inl ⟨Nat.le_refl _, hd σ H (by simpa using p)⟩
theorem go_iX {tl : TE} {R : It → Hp → Prop} (h : tl σ H fun x H1 => IX K x H1 R) : iX K tl σ H R := h
theorem go_iL {a : Addr} {xs : List V} {R : It → Hp → Prop} (hS : SqL K H a xs) (h : R (Itl K a) H) : IX K (.ref a) H R := .inl ⟨a, rfl, ⟨xs, hS⟩, h⟩
theorem go_iT {a : Addr} {xs : List V} {R : It → Hp → Prop} (hS : SqT K H a xs) (h : R (Itt K a) H) : IX K (.ref a) H R := .inr (.inl ⟨a, rfl, ⟨xs, hS⟩, h⟩)
theorem go_iS {z : Str} {R : It → Hp → Prop} (h : R (Its z) H) : IX K (.str z) H R := .inr (.inr ⟨z, rfl, h⟩)
def LcW (J : It) (g : TG) (tt : TT) (te : TE) (vs : List Nat) (σ : St) (H1 : Hp) (Q : VK) : Prop := ∀ D, H1 D = none → ∃ W : Nat → Nat → Hp → Prop, (∃ m, W 0 m (upd H1 D (.lst []))) ∧ ∀ i m H, W i m H →
  (J.stop i H ∧ Q (.ref D) H) ∨ (J.go i H ∧ ∃ Nx : Hp → Prop, (∀ H', Nx H' → ∃ m', m' < m ∧ W (i + 1) m' H') ∧ ∀ x H', J.yld i H x H' → g x (wipe σ vs) H' fun σ2 H2 => wipe σ2 vs = wipe σ vs ∧ tt σ2 H2 fun b H3 =>
    if b = true then te σ2 H3 fun y H4 => ∃ acc, H4 D = some (.lst acc) ∧ acc.length < sizeLine ∧ Nx (upd H4 D (.lst (acc ++ [y]))) else Nx H3)
theorem go_lc {wi : TI} {g : TG} {tt : TT} {te : TE} {vs : List Nat} (h : wi σ H fun J H1 => LcW J g tt te vs σ H1 Q) : tLc wi g tt te vs σ H Q := h
/-- the same relation at other targets -/
structure LcS (g : TG) (tt : TT) (te : TE) (vs : List Nat) (σ : St) (x : V) (H : Hp) (yes : V → Hp → Prop) (no : Hp → Prop) : Prop where
  run : g x (wipe σ vs) H fun σ2 H2 => wipe σ2 vs = wipe σ vs ∧ tt σ2 H2 fun b H3 => if b = true then te σ2 H3 yes else no H3
/-- GENERAL: over a list; R i ys H' what holds of the items made so far; D is the new list's own place -/
theorem LcW.list {a : Addr} {xs : List V} {H1 : Hp} {g : TG} {tt : TT} {te : TE} {vs : List Nat} (R : Addr → Nat → List V → Hp → Prop) (hz : xs.length ≤ 100000) (hS : SqL K H1 a xs) (h0 : ∀ D, H1 D = none → R D 0 [] (upd H1 D (.lst [])))
    (hs : ∀ D i x ys H', H1 D = none → xs[i]? = some x → ys.length ≤ i → R D i ys H' → Same H1 H' → H' D = some (.lst ys) → ∀ (yes : V → Hp → Prop) (no : Hp → Prop),
      (∀ y H'', Same H' H'' → R D (i + 1) (ys ++ [y]) (upd H'' D (.lst (ys ++ [y]))) → yes y H'') → (∀ H'', Same H' H'' → R D (i + 1) ys H'' → no H'') →
      g x (wipe σ vs) H' fun σ2 H2 => wipe σ2 vs = wipe σ vs ∧ tt σ2 H2 fun b H3 => if b = true then te σ2 H3 yes else no H3)
    (hd : ∀ D ys H', H1 D = none → Same H1 H' → H' D = some (.lst ys) → ys.length ≤ xs.length → R D xs.length ys H' → Q (.ref D) H') : LcW (Itl K a) g tt te vs σ H1 Q := by
  intro D hD
  refine lc_list (xs := xs) (fun i H' => Same H1 H' ∧ ∃ ys, H' D = some (.lst ys) ∧ ys.length ≤ i ∧ R D i ys H') ⟨same_new hD, [], upd_same, Nat.le_refl _, h0 D hD⟩ (fun i H' _ ⟨s, _⟩ => s.seq hS) (fun i x H' hi ⟨s, ys, e, hl, r⟩ => ?_) fun H' ⟨s, ys, e, hl, r⟩ => hd D ys H' hD s e hl r
  have hil : i < xs.length := (List.getElem?_eq_some_iff.mp hi).1
  refine hs D i x ys H' hD hi hl r s e _ _ (fun y H'' s2 r2 => ⟨ys, s2 _ _ e, ?_, same_mut (s.trans s2) hD, ys ++ [y], upd_same, by rw [List.length_append]; show ys.length + 1 ≤ _; omega, r2⟩) fun H'' s2 r2 => ⟨s.trans s2, ys, s2 _ _ e, by omega, r2⟩
  exact Nat.lt_of_le_of_lt hl (Nat.lt_of_lt_of_le hil (Nat.le_trans hz (by decide)))
theorem LcW.tup {a : Addr} {xs : List V} {H1 : Hp} {g : TG} {tt : TT} {te : TE} {vs : List Nat} (R : Addr → Nat → List V → Hp → Prop) (hz : xs.length ≤ 100000) (hS : SqT K H1 a xs) (h0 : ∀ D, H1 D = none → R D 0 [] (upd H1 D (.lst [])))
    (hs : ∀ D i x ys H', H1 D = none → xs[i]? = some x → ys.length ≤ i → R D i ys H' → Same H1 H' → H' D = some (.lst ys) → ∀ (yes : V → Hp → Prop) (no : Hp → Prop),
      (∀ y H'', Same H' H'' → R D (i + 1) (ys ++ [y]) (upd H'' D (.lst (ys ++ [y]))) → yes y H'') → (∀ H'', Same H' H'' → R D (i + 1) ys H'' → no H'') →
      g x (wipe σ vs) H' fun σ2 H2 => wipe σ2 vs = wipe σ vs ∧ tt σ2 H2 fun b H3 => if b = true then te σ2 H3 yes else no H3)
    (hd : ∀ D ys H', H1 D = none → Same H1 H' → H' D = some (.lst ys) → ys.length ≤ xs.length → R D xs.length ys H' → Q (.ref D) H') : LcW (Itt K a) g tt te vs σ H1 Q := by
  intro D hD
  have seqT : ∀ {H' : Hp}, Same H1 H' → SqT K H' a xs := fun {H'} s => by
    rcases hS with (h | ⟨o, h⟩) | h
    · exact .inl (.inl (s _ _ h))
    · exact .inl (.inr ⟨o, s _ _ h⟩)
    · exact .inr h
  refine lc_tup (xs := xs) (fun i H' => Same H1 H' ∧ ∃ ys, H' D = some (.lst ys) ∧ ys.length ≤ i ∧ R D i ys H') ⟨same_new hD, [], upd_same, Nat.le_refl _, h0 D hD⟩ (fun i H' _ ⟨s, _⟩ => seqT s) (fun i x H' hi ⟨s, ys, e, hl, r⟩ => ?_) fun H' ⟨s, ys, e, hl, r⟩ => hd D ys H' hD s e hl r
  have hil : i < xs.length := (List.getElem?_eq_some_iff.mp hi).1
  refine hs D i x ys H' hD hi hl r s e _ _ (fun y H'' s2 r2 => ⟨ys, s2 _ _ e, ?_, same_mut (s.trans s2) hD, ys ++ [y], upd_same, by rw [List.length_append]; show ys.length + 1 ≤ _; omega, r2⟩) fun H'' s2 r2 => ⟨s.trans s2, ys, s2 _ _ e, by omega, r2⟩
  exact Nat.lt_of_le_of_lt hl (Nat.lt_of_lt_of_le hil (Nat.le_trans hz (by decide)))
/-- elements are plain values, no test -/
theorem LcW.listV {a : Addr} {xs : List V} {H1 : Hp} {g : TG} {te : TE} {vs : List Nat} (out : Nat → V) (hz : xs.length ≤ 100000) (hS : SqL K H1 a xs)
    (hs : ∀ i x H', xs[i]? = some x → Same H1 H' → ∀ Q' : VK, (∀ H'', Same H' H'' → Q' (out i) H'') → g x (wipe σ vs) H' fun σ2 H2 => wipe σ2 vs = wipe σ vs ∧ te σ2 H2 Q')
    (mono : ∀ (x : V) (σ : St) (H : Hp) (Q Q' : St → Hp → Prop), (∀ σ H, Q σ H → Q' σ H) → g x σ H Q → g x σ H Q')
    (hd : ∀ D H', H1 D = none → Same H1 H' → H' D = some (.lst ((List.range xs.length).map out)) → Q (.ref D) H') : LcW (Itl K a) g tYes te vs σ H1 Q := by
  refine LcW.list (fun D i ys H' => ys = (List.range i).map out) hz hS (fun _ _ => rfl) (fun D i x ys H' hD hi hl r s e yes no hy hn => ?_) fun D ys H' hD s e _ r => hd D H' hD s (by rw [e, r])
  refine mono x _ _ _ _ (fun σ2 H2 q => q) (hs i x H' hi s yes fun H'' s2 => hy _ _ s2 ?_)
  rw [r, List.range_succ, List.map_append]
  rfl
theorem gname_mono {i : Nat} (x : V) (σ : St) (H : Hp) (Q Q' : St → Hp → Prop) (h : ∀ σ H, Q σ H → Q' σ H) (q : gName i x σ H Q) : gName i x σ H Q' := h _ _ q
theorem go_all {l : Addr} {bs : List Bool} (hS : SqL K H l (bs.map V.bl)) (h : Q (.bl (bs.all id)) H) : rAll K [.ref l] H Q := ⟨l, bs, rfl, hS, h⟩
theorem go_any {l : Addr} {bs : List Bool} (hS : SqL K H l (bs.map V.bl)) (h : Q (.bl (bs.any id)) H) : rAny K [.ref l] H Q := ⟨l, bs, rfl, hS, h⟩
theorem go_sum {l : Addr} {ns : List Int} (hS : SqL K H l (ns.map V.int)) (h : Q (.int ns.sum) H) : rSum K [.ref l] H Q := ⟨l, ns, rfl, hS, h⟩
theorem go_yes {QB : Bool → Hp → Prop} (h : QB true H) : tYes σ H QB := h
end
theorem range_map_const {n : Nat} {v : V} : (List.range n).map (fun _ => v) = List.replicate n v := by
  induction n with
  | zero => rfl
  | succ n ih => rw [List.range_succ, List.map_append, ih, List.replicate_succ'] <;> rfl
theorem all_true {n : Nat} : (List.replicate n true).all id = true := by simp
theorem szl {n : Nat} (h : n ≤ 100000) : n ≤ sizeLine := Nat.le_trans h (by decide)
theorem bl_ok {b : Bool} {Q : VK} {H : Hp} (e : b = true) (h : Q (.bl true) H) : Q (.bl b) H := by rw [e]; exact h
end L2.A
namespace L2.A
open PySem PySem.Spec PyProof.Rows
theorem ret_V {v v' : V} {Q : VK} {H : Hp} (e : v' = v) (h : Q v' H) : Q v H := by rw [← e]; exact h
theorem dec_int {i j : Int} : decide (V.int i = V.int j) = decide (i = j) := by simp
theorem dec_str {i j : Str} : decide (V.str i = V.str j) = decide (i = j) := by simp
theorem dec_bl {i j : Bool} : decide (V.bl i = V.bl j) = decide (i = j) := by simp
/-- the head and the items of a list of whole numbers -/
theorem int_at {ns : List Int} {i : Nat} {x : V} (h : (ns.map V.int)[i]? = some x) : ∃ z, x = V.int z ∧ ns[i]? = some z := by
  rw [List.getElem?_map] at h
  cases e : ns[i]? with
  | none => rw [e] at h; cases h
  | some z => rw [e] at h; exact ⟨z, (Option.some.inj h).symm, rfl⟩
theorem iteS_bl {b : Bool} {Q : VK} {H : Hp} {v1 v2 : V} (h1 : b = true → Q v1 H) (h2 : b = false → Q v2 H) : if b = true then Q v1 H else Q v2 H := if2 h1 h2
end L2.A
namespace L2.A
open PySem PySem.Spec PyProof.Rows
def RN1 (vs : List V) (H1 : Hp) (R : It → Hp → Prop) : Prop := ∃ j : Int, vs = [.int j] ∧ -(2 ^ 62) ≤ j ∧ j < 2 ^ 62 ∧ R (Itr 0 j.toNat) H1
def RN2 (vs : List V) (H1 : Hp) (R : It → Hp → Prop) : Prop := ∃ i j : Int, vs = [.int i, .int j] ∧ (-(2 ^ 62) ≤ i ∧ i < 2 ^ 62 ∧ -(2 ^ 62) ≤ j ∧ j < 2 ^ 62) ∧ R (Itr i (j - i).toNat) H1
theorem go_rng1 {ta : TA} {σ : St} {H : Hp} {R : It → Hp → Prop} (h : ta σ H fun vs H1 => RN1 vs H1 R) : iRng1 ta σ H R := h
theorem go_rng2 {ta : TA} {σ : St} {H : Hp} {R : It → Hp → Prop} (h : ta σ H fun vs H1 => RN2 vs H1 R) : iRng2 ta σ H R := h
theorem go_rn1 {j : Int} {H : Hp} {R : It → Hp → Prop} (h1 : -100000 ≤ j ∧ j ≤ 100000) (h : R (Itr 0 j.toNat) H) : RN1 [.int j] H R := ⟨j, rfl, by omega, by omega, h⟩
theorem go_rn2 {i j : Int} {H : Hp} {R : It → Hp → Prop} (h1 : -100000 ≤ i ∧ i ≤ 100000 ∧ -100000 ≤ j ∧ j ≤ 100000) (h : R (Itr i (j - i).toNat) H) : RN2 [.int i, .int j] H R := ⟨i, j, rfl, ⟨by omega, by omega, by omega, by omega⟩, h⟩
/-- an item of a written list at a drawn place -/
theorem at_some {α : Type} {xs : List α} {r : Int} (h0 : 0 ≤ r) (h1 : r < xs.length) : ∃ v, atI xs r = some v ∧ v ∈ xs := by
  obtain ⟨j, rfl⟩ : ∃ j : Nat, r = (j : Int) := ⟨r.toNat, by omega⟩
  have hj : j < xs.length := by omega
  exact ⟨xs[j], atI_nat (List.getElem?_eq_getElem hj), List.getElem_mem hj⟩
theorem menuS {L : List Str} {r : Int} (h0 : 0 ≤ r) (h1 : r < L.length) : ∃ k, atI (L.map V.str) r = some (.str k) ∧ k ∈ L := by
  obtain ⟨v, e, m⟩ := at_some (xs := L.map V.str) h0 (by rw [List.length_map]; exact h1)
  obtain ⟨k, hk, rfl⟩ := List.mem_map.mp m
  exact ⟨k, e, hk⟩
theorem menuI {L : List Int} {r : Int} (h0 : 0 ≤ r) (h1 : r < L.length) : ∃ k, atI (L.map V.int) r = some (.int k) ∧ k ∈ L := by
  obtain ⟨v, e, m⟩ := at_some (xs := L.map V.int) h0 (by rw [List.length_map]; exact h1)
  obtain ⟨k, hk, rfl⟩ := List.mem_map.mp m
  exact ⟨k, e, hk⟩
/-- a sign of a written text at a drawn place -/
theorem sign_some {z : Str} {r : Int} (h0 : 0 ≤ r) (h1 : r < z.cps.toList.length) : ∃ c, atI z.cps.toList r = some c ∧ c ∈ z.cps.toList := at_some h0 h1
theorem len_app (a b : Str) : (a ++ b).length = a.length + b.length := by
  have h := congrArg List.length (TL.tl_append a b)
  rw [List.length_append, ← TL.len_tl, ← TL.len_tl, ← TL.len_tl] at h
  exact h
theorem len_one {c : Nat} : (⟨#[c]⟩ : Str).length = 1 := rfl
end L2.A

namespace L2.A
open PySem PySem.Spec PyProof.Rows
section
variable {σ : St} {H : Hp} {Q : VK} {QB : Bool → Hp → Prop} {tt tu : TT} {ta tb : TE} {c1 c2 : Bool} {v1 v2 : V}
/-! ### and, or whose parts lay nothing: one value, no two ways -/
theorem go_andP (h1 : ∀ QB' : Bool → Hp → Prop, QB' c1 H → tt σ H QB') (h2 : ∀ QB' : Bool → Hp → Prop, QB' c2 H → tu σ H QB') (h : QB (c1 && c2) H) : tAnd tt tu σ H QB := h1 _ (by
  cases c1 with
  | true => exact iteT (h2 _ h)
  | false => exact iteF h)
theorem go_orP (h1 : ∀ QB' : Bool → Hp → Prop, QB' c1 H → tt σ H QB') (h2 : ∀ QB' : Bool → Hp → Prop, QB' c2 H → tu σ H QB') (h : QB (c1 || c2) H) : tOr tt tu σ H QB := h1 _ (by
  cases c1 with
  | true => exact iteT h
  | false => exact iteF (h2 _ h))
theorem go_andVP (h1 : ∀ Q' : VK, Q' (.bl c1) H → ta σ H Q') (h2 : ∀ Q' : VK, Q' (.bl c2) H → tb σ H Q') (h : Q (.bl (c1 && c2)) H) : tAndV ta tb σ H Q := h1 _ ⟨c1, rfl, by
  cases c1 with
  | true => exact iteT (h2 _ h)
  | false => exact iteF h⟩
theorem go_orVP (h1 : ∀ Q' : VK, Q' (.bl c1) H → ta σ H Q') (h2 : ∀ Q' : VK, Q' (.bl c2) H → tb σ H Q') (h : Q (.bl (c1 || c2)) H) : tOrV ta tb σ H Q := h1 _ ⟨c1, rfl, by
  cases c1 with
  | true => exact iteT h
  | false => exact iteF (h2 _ h)⟩
theorem go_ifxP (h1 : ∀ QB' : Bool → Hp → Prop, QB' c1 H → tt σ H QB') (h2 : ∀ Q' : VK, Q' v1 H → ta σ H Q') (h3 : ∀ Q' : VK, Q' v2 H → tb σ H Q') (h : Q (if c1 = true then v1 else v2) H) : tIf tt ta tb σ H Q := h1 _ (by
  cases c1 with
  | true => exact iteT (h2 _ h)
  | false => exact iteF (h3 _ h))
theorem and_join (h2 : ∀ QB' : Bool → Hp → Prop, QB' c2 H → tu σ H QB') (h : QB (c1 && c2) H) : if c1 = true then tu σ H QB else QB false H := by
  cases c1 with
  | true => exact iteT (h2 _ h)
  | false => exact iteF h
theorem or_join (h2 : ∀ QB' : Bool → Hp → Prop, QB' c2 H → tu σ H QB') (h : QB (c1 || c2) H) : if c1 = true then QB true H else tu σ H QB := by
  cases c1 with
  | true => exact iteT h
  | false => exact iteF (h2 _ h)
theorem andV_join (h2 : ∀ Q' : VK, Q' (.bl c2) H → tb σ H Q') (h : Q (.bl (c1 && c2)) H) : if c1 = true then tb σ H Q else Q (.bl false) H := by
  cases c1 with
  | true => exact iteT (h2 _ h)
  | false => exact iteF h
theorem orV_join (h2 : ∀ Q' : VK, Q' (.bl c2) H → tb σ H Q') (h : Q (.bl (c1 || c2)) H) : if c1 = true then Q (.bl true) H else tb σ H Q := by
  cases c1 with
  | true => exact iteT h
  | false => exact iteF (h2 _ h)
/-- the same where the parts may lay new objects -/
theorem go_andS (h1 : ∀ QB' : Bool → Hp → Prop, (∀ H', Same H H' → QB' c1 H') → tt σ H QB') (h2 : ∀ H1, Same H H1 → ∀ QB' : Bool → Hp → Prop, (∀ H', Same H1 H' → QB' c2 H') → tu σ H1 QB') (h : ∀ H', Same H H' → QB (c1 && c2) H') : tAnd tt tu σ H QB := h1 _ fun H1 s1 => by
  cases c1 with
  | true => exact iteT (h2 _ s1 _ fun H2 s2 => h _ (s1.trans s2))
  | false => exact iteF (h _ s1)
theorem go_orS (h1 : ∀ QB' : Bool → Hp → Prop, (∀ H', Same H H' → QB' c1 H') → tt σ H QB') (h2 : ∀ H1, Same H H1 → ∀ QB' : Bool → Hp → Prop, (∀ H', Same H1 H' → QB' c2 H') → tu σ H1 QB') (h : ∀ H', Same H H' → QB (c1 || c2) H') : tOr tt tu σ H QB := h1 _ fun H1 s1 => by
  cases c1 with
  | true => exact iteT (h _ s1)
  | false => exact iteF (h2 _ s1 _ fun H2 s2 => h _ (s1.trans s2))
end
end L2.A

namespace L2.A
open PySem PySem.Spec PyProof.Rows
/-- a statement, then the rest, with a word between them: what follows is shown once, from Mid -/
def tCut (t u : TS) : TS := fun D σ H => ∃ Mid : St → Hp → Prop, t { D with nx := Mid } σ H ∧ ∀ σ' H', Mid σ' H' → u D σ' H'
theorem pss_cut {X : Cx} {st : Stmt} {rest : List Stmt} {t u : TS} (h1 : PS X st t) (h2 : PSs X rest u) : PSs X (st :: rest) (tCut t u) := by
  refine ⟨fun pins s σ H D I h => ?_⟩
  obtain ⟨Mid, hm, hu⟩ := h
  refine wpAny_execs_cons (thn (h1.run pins s σ H { D with nx := Mid } I hm) fun f s1 q => ?_)
  cases f with
  | next =>
    obtain ⟨σ', H', I', q⟩ := q
    exact h2.run pins s1 σ' H' D I' (hu σ' H' q)
  | ret v => exact q
  | brk => exact q
  | cont => exact q
theorem go_cut {t u : TS} {D : Ends} {σ : St} {H : Hp} (Mid : St → Hp → Prop) (h1 : t { D with nx := Mid } σ H) (h2 : ∀ σ' H', Mid σ' H' → u D σ' H') : tCut t u D σ H := ⟨Mid, h1, h2⟩
end L2.A

namespace L2.A
open PySem PySem.Spec PyProof.Rows
theorem seqT_same {K : PySem.W.Frag} {H H' : Hp} {p : Addr} {xs : List V} (h : SqT K H p xs) (s : Same H H') : SqT K H' p xs := by
  rcases h with (h | ⟨o, h⟩) | h
  · exact .inl (.inl (s _ _ h))
  · exact .inl (.inr ⟨o, s _ _ h⟩)
  · exact .inr h
theorem seqL_same {K : PySem.W.Frag} {H H' : Hp} {p : Addr} {xs : List V} (h : SqL K H p xs) (s : Same H H') : SqL K H' p xs := s.seq h
/-- == of scalars in short -/
abbrev eI (a b : Int) : Bool := decide (V.int a = V.int b)
abbrev eS (a b : Str) : Bool := decide (V.str a = V.str b)
theorem eI_eq (a b : Int) : eI a b = decide (a = b) := by simp
theorem eS_eq (a b : Str) : eS a b = decide (a = b) := by simp
end L2.A

namespace L2.A
open PySem PySem.Spec PyProof.Rows
section
variable {σ : St} {H : Hp} {Q : VK}
/-! ### displays of dicts -/
def kvOf (p : V × V) : Key × V := (match p.1 with | .str x => Sum.inr x | .int i => Sum.inl i | _ => Sum.inl 0, p.2)
def DispK (p : Addr) (ps : List (V × V)) (H2 : Hp) (Q : VK) : Prop := H2 p = some (.dK []) ∧ ∃ kvs : List (Key × V), ps = kvs.map (fun kv => (kV kv.1, kv.2)) ∧ kvs.length ≤ 15 ∧ Q (.ref p) (upd H2 p (.dK (mergeK [] kvs)))
def DispN (trs : List (TE × TE)) (σ : St) (H : Hp) (Q : VK) : Prop := ∀ p, H p = none → tPairs trs σ (upd H p (.dK [])) fun ps H2 => DispK p ps H2 Q
theorem go_disp {trs : List (TE × TE)} (h : DispN trs σ H Q) : tDisp trs σ H Q := h
theorem go_pairs {tk tv : TE} {r : List (TE × TE)} {R : List (V × V) → Hp → Prop} (h : tk σ H fun k H1 => tv σ H1 fun v H2 => tPairs r σ H2 fun ps H3 => R ((k, v) :: ps) H3) : tPairs ((tk, tv) :: r) σ H R := h
theorem go_pairs0 {R : List (V × V) → Hp → Prop} (h : R [] H) : tPairs [] σ H R := h
theorem go_dispK {p : Addr} {ps : List (V × V)} (h0 : H p = some (.dK [])) (e : ps = (ps.map kvOf).map (fun kv => (kV kv.1, kv.2))) (hl : Nat.ble (ps.map kvOf).length 15 = true) (h : Q (.ref p) (upd H p (.dK (mergeK [] (ps.map kvOf))))) : DispK p ps H Q :=
  ⟨h0, _, e, Nat.le_of_ble_eq_true hl, h⟩
end
end L2.A

namespace L2.A
open PySem PySem.Spec PyProof.Rows
theorem upd_free {H : Hp} {a b : Addr} {o : HO} (h : upd H a o b = none) : H b = none := by
  by_cases e : b = a
  · subst e; rw [upd_same] at h; cases h
  · rw [upd_ne e] at h; exact h
end L2.A

namespace L2.A
open PySem PySem.Spec PyProof.Rows
/-- a statement that lays nothing: the slots behind it told -/
theorem go_cutP {t u : TS} {D : Ends} {σ : St} {H : Hp} (σ1 : St) (h1 : t { D with nx := fun σ' H' => σ' = σ1 ∧ H' = H } σ H) (h2 : u D σ1 H) : tCut t u D σ H := ⟨_, h1, fun _ _ ⟨e1, e2⟩ => by rw [e1, e2]; exact h2⟩
/-- .. that may lay new objects -/
theorem go_cutS {t u : TS} {D : Ends} {σ : St} {H : Hp} (σ1 : St) (h1 : t { D with nx := fun σ' H' => σ' = σ1 ∧ Same H H' } σ H) (h2 : ∀ H', Same H H' → u D σ1 H') : tCut t u D σ H := ⟨_, h1, fun _ _ ⟨e1, e2⟩ => by rw [e1]; exact h2 _ e2⟩
end L2.A

namespace L2.A
open PySem PySem.Spec PyProof.Rows
section
variable {X : Cx} {K : PySem.W.Frag} {σ : St} {H : Hp} {Q : VK}
/-! ### slices -/
def PartI (x : V) (H : Hp) (R : Option Int → Hp → Prop) : Prop := ∃ i, x = .int i ∧ R (some i) H
theorem go_sl {r : V → Option Int → Option Int → Hp → VK → Prop} {te : TE} {tl th : TO} (h : te σ H fun x H1 => tl σ H1 fun l H2 => th σ H2 fun u H3 => r x l u H3 Q) : tSl r te tl th σ H Q := h
theorem go_nopart {R : Option Int → Hp → Prop} (h : R none H) : tNoPart σ H R := h
theorem go_part {t : TE} {R : Option Int → Hp → Prop} (h : t σ H fun x H1 => PartI x H1 R) : tPart t σ H R := h
theorem go_partI {i : Int} {R : Option Int → Hp → Prop} (h : R (some i) H) : PartI (.int i) H R := ⟨i, rfl, h⟩
theorem go_slT {p : Addr} {xs ys : List V} {lo hi : Option Int} (hp : SqT K H p xs) (e : cutV xs lo hi = ys) (n : (Nat.beq (HT.sIx xs.length 0 lo) 0 && Nat.beq (HT.sIx xs.length xs.length hi) xs.length) = false) (h : NewO (.tup ys) H Q) : rSlX K (.ref p) lo hi H Q :=
  .inr (.inl ⟨p, xs, rfl, hp, fun ⟨z1, z2⟩ => by rw [z1, z2] at n; simp at n, by rw [e]; exact h⟩)
theorem go_slL {p : Addr} {xs ys : List V} {lo hi : Option Int} (hp : SqL K H p xs) (e : cutV xs lo hi = ys) (h : NewO (.lst ys) H Q) : rSlX K (.ref p) lo hi H Q := .inl ⟨p, xs, rfl, hp, by rw [e]; exact h⟩
theorem go_slS {z : Str} {lo hi : Option Int} (hz : z.length ≤ sizeLine) (h : Q (.str (cutS z lo hi)) H) : rSlX K (.str z) lo hi H Q := .inr (.inr ⟨z, rfl, hz, h⟩)
/-! ### min, max of three -/
def rMn3 : List V → Hp → VK → Prop := fun xs H Q => ∃ i j k : Int, xs = [.int i, .int j, .int k] ∧ Q (.int (min i (min j k))) H
def rMx3 : List V → Hp → VK → Prop := fun xs H Q => ∃ i j k : Int, xs = [.int i, .int j, .int k] ∧ Q (.int (max i (max j k))) H
theorem vals3 {x y z : V} {us : List Value} (r : Vals [x, y, z] us) : ∃ u v w', us = [u, v, w'] ∧ RelV x u ∧ RelV y v ∧ RelV z w' := by
  cases r with
  | cons r1 r2 =>
    obtain ⟨u, v, rfl, a, b⟩ := vals2 r2
    exact ⟨_, _, _, rfl, r1, a, b⟩
theorem call_mn3 (hc : X.calm = true) : CallR X (.builtin "min") rMn3 := by
  intro pins s σ H xs us Q I r h
  obtain ⟨i, j, k, rfl, q⟩ := h
  obtain ⟨u, v, w', rfl, ⟨t, rfl⟩, ⟨t', rfl⟩, ⟨t2, rfl⟩⟩ := vals3 r
  refine min_three_ints (I.ok.hd hc) fun h' tk hk => ⟨_, H, I.kept hk, ?_, q⟩
  by_cases h1 : j < i
  · by_cases h2 : k < j
    · rw [if_pos h1, if_pos h2]; exact ⟨_, by rw [show min i (min j k) = k by omega]⟩
    · rw [if_pos h1, if_neg h2]; exact ⟨_, by rw [show min i (min j k) = j by omega]⟩
  · by_cases h2 : k < i
    · rw [if_neg h1, if_pos h2]; exact ⟨_, by rw [show min i (min j k) = k by omega]⟩
    · rw [if_neg h1, if_neg h2]; exact ⟨_, by rw [show min i (min j k) = i by omega]⟩
theorem call_mx3 (hc : X.calm = true) : CallR X (.builtin "max") rMx3 := by
  intro pins s σ H xs us Q I r h
  obtain ⟨i, j, k, rfl, q⟩ := h
  obtain ⟨u, v, w', rfl, ⟨t, rfl⟩, ⟨t', rfl⟩, ⟨t2, rfl⟩⟩ := vals3 r
  refine max_three_ints (I.ok.hd hc) fun h' tk hk => ⟨_, H, I.kept hk, ?_, q⟩
  by_cases h1 : j > i
  · by_cases h2 : k > j
    · rw [if_pos h1, if_pos h2]; exact ⟨_, by rw [show max i (max j k) = k by omega]⟩
    · rw [if_pos h1, if_neg h2]; exact ⟨_, by rw [show max i (max j k) = j by omega]⟩
  · by_cases h2 : k > i
    · rw [if_neg h1, if_pos h2]; exact ⟨_, by rw [show max i (max j k) = k by omega]⟩
    · rw [if_neg h1, if_neg h2]; exact ⟨_, by rw [show max i (max j k) = i by omega]⟩
theorem go_min3 {a b c : Int} (h : Q (.int (min a (min b c))) H) : rMn3 [V.int a, V.int b, V.int c] H Q := ⟨a, b, c, rfl, h⟩
theorem go_max3 {a b c : Int} (h : Q (.int (max a (max b c))) H) : rMx3 [V.int a, V.int b, V.int c] H Q := ⟨a, b, c, rfl, h⟩
end
end L2.A

namespace L2.A
open PySem PySem.Spec PyProof.Rows
theorem ge2 {H H' : Hp} {a : Addr} {o : HO} (h : H a = some o) (s : Same H H') : H' a = some o := s a o h
end L2.A


namespace L2.A
open PySem PySem.Spec PyProof.Rows
/-! ### == of data at any depth -/
mutual
theorem Dp.same {K : PySem.W.Frag} {H H' : Hp} (s : Same H H') : ∀ (d : PyData) (v : V), Dp K H v d → Dp K H' v d
  | .none, _, h => by cases h; exact .non
  | .bool b, _, h => by cases h; exact .bl b
  | .int i, _, h => by cases h; exact .int i
  | .str x, _, h => by cases h; exact .str x
  | .list ds, _, h => by
    cases h with
    | lst hs ha => exact .lst (s.seq hs) (Dp.sameAll s ds _ ha)
  | .tuple ds, _, h => by
    cases h with
    | tup hs ha => exact .tup (seqT_same hs s) (Dp.sameAll s ds _ ha)
  | .dict _, _, h => by cases h
theorem Dp.sameAll {K : PySem.W.Frag} {H H' : Hp} (s : Same H H') : ∀ (ds : List PyData) (vs : List V), DpAll K H vs ds → DpAll K H' vs ds
  | [], _, h => by cases h; exact .nil
  | d :: ds, _, h => by
    cases h with
    | cons h1 h2 => exact .cons (Dp.same s d _ h1) (Dp.sameAll s ds _ h2)
end
/-- the datum of a scalar -/
def dV : V → PyData
  | .bl b => .bool b
  | .int i => .int i
  | .str x => .str x
  | _ => .none
theorem Dp.flat {K : PySem.W.Frag} {H : Hp} : ∀ {v : V}, flatV v = true → Dp K H v (dV v)
  | .non, _ => .non
  | .bl b, _ => .bl b
  | .int i, _ => .int i
  | .str x, _ => .str x
theorem DpAll.flat {K : PySem.W.Frag} {H : Hp} : ∀ {vs : List V}, vs.all flatV = true → DpAll K H vs (vs.map dV)
  | [], _ => .nil
  | v :: vs, h => by
    have h' : flatV v = true ∧ vs.all flatV = true := by simpa using h
    exact .cons (Dp.flat h'.1) (DpAll.flat h'.2)
/-- a scalar whose text may be laid -/
def okV : V → Bool
  | .non | .bl _ | .int _ => true
  | .str x => PySem.PyData.strOk x
  | _ => false
theorem okV_flat {v : V} (h : okV v = true) : flatV v = true := by cases v <;> simp_all [okV, flatV]
theorem okV_all {vs : List V} (h : vs.all okV = true) : vs.all flatV = true := by
  rw [List.all_eq_true] at h ⊢
  exact fun v m => okV_flat (h v m)
theorem lay_flat {v : V} (h : okV v = true) : (dV v).canLay0 = true := by cases v <;> simp_all [okV, dV, PyData.canLay0]
theorem layAll_flat : ∀ {vs : List V}, vs.all okV = true → PyData.canLayAll0 (vs.map dV) = true
  | [], _ => rfl
  | v :: vs, h => by
    have h' : okV v = true ∧ vs.all okV = true := by simpa using h
    simp only [List.map_cons, PyData.canLayAll0, lay_flat h'.1, layAll_flat h'.2, Bool.and_self]
theorem depth_flat {v : V} : (dV v).depth = 0 := by cases v <;> simp [dV, PyData.depth]
theorem depthAll_flat : ∀ {vs : List V}, PyData.depthAll (vs.map dV) = 0
  | [] => rfl
  | v :: vs => by simp only [List.map_cons, PyData.depthAll, depth_flat, depthAll_flat]; rfl
theorem shaped_tup {vs : List V} (h : vs.all okV = true) : SeqAt.shaped (.tuple (vs.map dV)) = true := by
  simp only [SeqAt.shaped, PyData.canLay0, layAll_flat h, PyData.depth, depthAll_flat]; rfl
theorem shaped_lst {vs : List V} (h : vs.all okV = true) : SeqAt.shaped (.list (vs.map dV)) = true := by
  simp only [SeqAt.shaped, PyData.canLay0, layAll_flat h, PyData.depth, depthAll_flat]; rfl
/-- == of rows of scalars -/
def eqVs (xs ys : List V) : Bool := PyData.eqvAll (xs.map dV) (ys.map dV)
theorem eqVs_refl {vs : List V} (h : vs.all okV = true) : eqVs vs vs = true := SeqAt.eqvAll_refl _ (layAll_flat h)
section
variable {K : PySem.W.Frag} {H : Hp} {Q : VK}
theorem go_eqT {p q : Addr} {xs ys : List V} (hp : SqT K H p xs) (hq : SqT K H q ys) (ox : xs.all okV = true) (oy : ys.all okV = true) (h : Q (.bl (eqVs xs ys)) H) : rEqX K (.ref p) (.ref q) H Q :=
  .inr ⟨_, _, .tup hp (DpAll.flat (okV_all ox)), .tup hq (DpAll.flat (okV_all oy)), shaped_tup ox, shaped_tup oy, by rw [PyData.eqv]; exact h⟩
theorem go_neT {p q : Addr} {xs ys : List V} (hp : SqT K H p xs) (hq : SqT K H q ys) (ox : xs.all okV = true) (oy : ys.all okV = true) (h : Q (.bl (!eqVs xs ys)) H) : rNeX K (.ref p) (.ref q) H Q :=
  .inr ⟨_, _, .tup hp (DpAll.flat (okV_all ox)), .tup hq (DpAll.flat (okV_all oy)), shaped_tup ox, shaped_tup oy, by rw [PyData.eqv]; exact h⟩
theorem go_eqL {p q : Addr} {xs ys : List V} (hp : SqL K H p xs) (hq : SqL K H q ys) (ox : xs.all okV = true) (oy : ys.all okV = true) (h : Q (.bl (eqVs xs ys)) H) : rEqX K (.ref p) (.ref q) H Q :=
  .inr ⟨_, _, .lst hp (DpAll.flat (okV_all ox)), .lst hq (DpAll.flat (okV_all oy)), shaped_lst ox, shaped_lst oy, by rw [PyData.eqv]; exact h⟩
theorem go_neL {p q : Addr} {xs ys : List V} (hp : SqL K H p xs) (hq : SqL K H q ys) (ox : xs.all okV = true) (oy : ys.all okV = true) (h : Q (.bl (!eqVs xs ys)) H) : rNeX K (.ref p) (.ref q) H Q :=
  .inr ⟨_, _, .lst hp (DpAll.flat (okV_all ox)), .lst hq (DpAll.flat (okV_all oy)), shaped_lst ox, shaped_lst oy, by rw [PyData.eqv]; exact h⟩
end
end L2.A


namespace L2.A
open PySem PySem.Spec PyProof.Rows
section
variable {X : Cx} {K : PySem.W.Frag}
/-! ### the same rules with the fragment named (within a comprehension's own context) -/
theorem op_addK (hK : X.K = K) : OpR X (binaryOp .Add) (rAddX K) := hK ▸ op_addX
theorem op_eqK (hK : X.K = K) (hu : X.A.units + 64 < cLine) : OpR X (compareOp .Eq) (rEqX K) := hK ▸ op_eqX hu
theorem op_neK (hK : X.K = K) (hu : X.A.units + 64 < cLine) : OpR X (compareOp .NotEq) (rNeX K) := hK ▸ op_neX hu
theorem op_inK (hK : X.K = K) (hu : X.A.units + 1 < cLine) : OpR X (compareOp .In) (rInX K) := hK ▸ op_inX hu
theorem op_notInK (hK : X.K = K) (hu : X.A.units + 1 < cLine) : OpR X (compareOp .NotIn) (rNotInX K) := hK ▸ op_notInX hu
theorem op_isK' (hK : X.K = K) : OpR X (compareOp .Is) (rIsX K) := hK ▸ op_isX
theorem op_isNotK' (hK : X.K = K) : OpR X (compareOp .IsNot) (rIsNotX K) := hK ▸ op_isNotX
theorem ix_K (hK : X.K = K) (hu : X.A.units + 1 < cLine) : IxR X (rIxX K) := hK ▸ ix_X hu
theorem sl_K (hK : X.K = K) : SlR X (rSlX K) := hK ▸ sl_X
theorem call_lenK (hK : X.K = K) : CallR X (.builtin "len") (rLenX K) := hK ▸ call_lenX
theorem call_isiK (hK : X.K = K) : CallR X (.builtin "isinstance") (rIsiX K) := hK ▸ call_isiX
theorem call_listK (hK : X.K = K) : CallR X (.type "list") (rListO K) := hK ▸ call_listO
theorem call_tupK (hK : X.K = K) : CallR X (.type "tuple") (rTupO K) := hK ▸ call_tupO
theorem pt_truK (hK : X.K = K) {a : Expr} {ta : TE} (ha : PE X a ta) (he : ∀ whole, isTrue a X.env whole = (do let v ← whole; standAt a.pos; holding [v] (truthy v)) := by intro _; rfl) : PT X a (tTruX K ta) := hK ▸ pt_truX ha he
theorem pi_K (hK : X.K = K) {tg l : Expr} {tl : TE} (hl : PE X l tl) : PI X tg l (iX K tl) := hK ▸ pi_X hl
theorem cr_sumK (hK : X.K = K) (hc : X.calm = true) : CallR X (.builtin "sum") (rSum K) := hK ▸ cr_sum hc
theorem cr_allK (hK : X.K = K) (hc : X.calm = true) : CallR X (.builtin "all") (rAll K) := hK ▸ cr_all hc
theorem cr_anyK (hK : X.K = K) (hc : X.calm = true) : CallR X (.builtin "any") (rAny K) := hK ▸ cr_any hc
theorem pg_tupK (hK : X.K = K) {es : List Expr} {k : Nat} {t : TGs} {n : Nat} {pos : Pos} {i : ExprContext} (hc : X.calm = true) (h : PGs X es t)
    (hn : (assignEach es X.env).length = n := by rfl) (hst : (assignEach es X.env).findIdx? (·.1) = none := by rfl) : PG X (.Tuple es k pos) (gTup K n t) := hK ▸ pg_tup hc h hn hst
end
def BmW (K : PySem.W.Frag) (T : String) (rc : V → List V → Hp → VK → Prop) (ta : TA) (σ : St) (x : V) (H1 : Hp) (Q : VK) : Prop := tyV K T x H1 ∧ ta σ H1 fun vs H2 => rc x vs H2 Q
def BmW0 (K : PySem.W.Frag) (T : String) (rc : V → List V → Hp → VK → Prop) (x : V) (H1 : Hp) (Q : VK) : Prop := tyV K T x H1 ∧ rc x [] H1 Q
section
variable {K : PySem.W.Frag} {H : Hp} {Q : VK} {σ : St}
/-! ### bound methods -/
theorem go_bm {T : String} {rc : V → List V → Hp → VK → Prop} {te : TE} {ta : TA} (h : te σ H fun x H1 => BmW K T rc ta σ x H1 Q) : tBM K T rc te ta σ H Q := h
theorem go_bmW {T : String} {rc : V → List V → Hp → VK → Prop} {ta : TA} {x : V} (h1 : tyV K T x H) (h : ta σ H fun vs H2 => rc x vs H2 Q) : BmW K T rc ta σ x H Q := ⟨h1, h⟩
theorem go_bm0 {T : String} {rc : V → List V → Hp → VK → Prop} {te : TE} (h : te σ H fun x H1 => BmW0 K T rc x H1 Q) : tBM0 K T rc te σ H Q := h
theorem go_bmW0 {T : String} {rc : V → List V → Hp → VK → Prop} {x : V} (h1 : tyV K T x H) (h : rc x [] H Q) : BmW0 K T rc x H Q := ⟨h1, h⟩
theorem tyV_s {z : Str} : tyV K "str" (.str z) H := rfl
theorem tyV_l {p : Addr} {xs : List V} (h : SqL K H p xs) : tyV K "list" (.ref p) H := .inl ⟨rfl, xs, h⟩
theorem tyV_d {p : Addr} {kvs : List (Key × V)} (h : H p = some (.dK kvs)) : tyV K "dict" (.ref p) H := .inr (.inr (.inl ⟨rfl, .inl ⟨kvs, h⟩⟩))
theorem tyV_dT {p : Addr} {kvs} (h : H p = some (.dT kvs)) : tyV K "dict" (.ref p) H := .inr (.inr (.inl ⟨rfl, .inr ⟨kvs, h⟩⟩))
theorem go_append {l : Addr} {xs : List V} {y : V} (hl : H l = some (.lst xs)) (z : xs.length < 100000) (h : Q .non (upd H l (.lst (xs ++ [y])))) : rAppend (.ref l) [y] H Q := ⟨l, xs, y, rfl, rfl, hl, Nat.lt_of_lt_of_le z (by decide), h⟩
end
end L2.A

namespace L2.A
open PySem PySem.Spec PyProof.Rows
section
variable {σ σ' : St} {H : Hp} {D : Ends} {u v w : V} {i j l : Nat} {ta : TA}
def P3 (i j l : Nat) (σ : St) (D : Ends) (vs : List V) (H1 : Hp) : Prop := ∃ u v w, vs = [u, v, w] ∧ D.nx (((σ.set i (some u)).set j (some v)).set l (some w)) H1
def P2 (i j : Nat) (σ : St) (D : Ends) (vs : List V) (H1 : Hp) : Prop := ∃ u v, vs = [u, v] ∧ D.nx ((σ.set i (some u)).set j (some v)) H1
theorem go_par3 (h : ta σ H fun vs H1 => P3 i j l σ D vs H1) : tPar3 i j l ta D σ H := h
theorem go_par (h : ta σ H fun vs H1 => P2 i j σ D vs H1) : tPar i j ta D σ H := h
theorem go_p3 (e : ((σ.set i (some u)).set j (some v)).set l (some w) = σ') (h : D.nx σ' H) : P3 i j l σ D [u, v, w] H := ⟨u, v, w, rfl, by rw [e]; exact h⟩
theorem go_p2 (e : (σ.set i (some u)).set j (some v) = σ') (h : D.nx σ' H) : P2 i j σ D [u, v] H := ⟨u, v, rfl, by rw [e]; exact h⟩
end
theorem kp_mut {fp : Addr → Prop} {H H' : Hp} {l : Addr} {o : HO} (k : Kp fp H H') (h : H l = none) : Kp fp H (upd H' l o) := fun a u e n => by rw [upd_ne (ne_of_none e h)]; exact k a u e n
theorem kp_new {fp : Addr → Prop} {H H' : Hp} {l : Addr} {o : HO} (k : Kp fp H H') (h : H' l = none) : Kp fp H (upd H' l o) := k.trans (Kp.same (same_new h))
end L2.A

namespace L2.A
open PySem PySem.Spec PyProof.Rows
/-- a new object, the heap abstract -/
theorem go_new {o : HO} {H : Hp} {Q : VK} (h : ∀ p H', H p = none → Same H H' → H' p = some o → Q (.ref p) H') : NewO o H Q := fun p hp => h p _ hp (same_new hp) upd_same
/-- the same, from an earlier heap -/
theorem go_newS {o : HO} {H0 H : Hp} {Q : VK} (s : Same H0 H) (h : ∀ p H', H0 p = none → Same H0 H' → H' p = some o → Q (.ref p) H') : NewO o H Q := fun p hp => h p _ (s.free hp) (s.trans (same_new hp)) upd_same
end L2.A

namespace L2.Toy
open PySem PySem.Spec PyProof.Rows L2.A
local macro_rules | `(tactic| walk_at "sqT") => `(tactic| first | assumption | exact .of upd_same | exact .of (by assumption) | exact seqT_same (by assumption) (by walk_at "same") | exact .of (ge2 (by assumption) (by walk_at "same")))
local macro_rules | `(tactic| walk_at "sqL") => `(tactic| first | assumption | exact .of upd_same | exact .of (by assumption) | exact seqL_same (by assumption) (by walk_at "same") | exact .of (ge2 (by assumption) (by walk_at "same")))
local macro_rules | `(tactic| walk_at "obj") => `(tactic| first | exact upd_same | assumption | exact ge2 (by assumption) (by walk_at "same"))
local macro_rules | `(tactic| walk_at "ty") => `(tactic| first | exact tyV_s | exact tyV_l (by walk_at "sqL") | exact tyV_d (by walk_at "obj") | exact tyV_dT (by walk_at "obj"))
local macro_rules | `(tactic| walk_at "1") => `(tactic| first
  | with_reducible refine go_seq ?_
  | with_reducible refine go_nx ?_
  | with_reducible refine go_asg ?_
  | with_reducible refine go_op ?_
  | ((with_reducible refine' go_var ?e ?_); (case e => exact rfl))
  | ((with_reducible refine' go_name ?e ?_); (case e => (simp only [List.set_cons_zero, List.set_cons_succ]; rfl)))
  | with_reducible refine go_c ?_
  | with_reducible refine go_I0 ?_
  | with_reducible refine go_addI ?_
  | ((with_reducible refine go_mulI ?e ?_); (case e => (show CMul _ _; unfold CMul; omega)))
  | ((with_reducible refine go_I ?e ?_); (case e => (first | omega | (show CDiv _ _; unfold CDiv; omega) | (show (0 : Int) < _; omega))))
  | with_reducible refine go_if ?_
  | with_reducible refine go_test ?_
  | with_reducible refine go_bl ?_
  | ((with_reducible refine go_eqS ?e ?_); (case e => exact rfl))
  | ((with_reducible refine go_neS ?e ?_); (case e => exact rfl))
  | with_reducible refine go_isN ?_
  | with_reducible refine go_notN ?_
  | with_reducible refine go_isB ?_
  | with_reducible refine go_notB ?_
  | with_reducible refine go_ret ?_
  | with_reducible refine go_rt ?_
  | with_reducible refine go_retN ?_
  | with_reducible refine go_cons ?_
  | with_reducible refine go_nil ?_
  | with_reducible refine go_call ?_
  | with_reducible refine go_CB ?_
  | with_reducible refine go_tup ?_
  | with_reducible refine go_lst ?_
  | with_reducible refine go_newT rfl ?_
  | with_reducible refine go_newL rfl ?_
  | with_reducible refine go_not ?_
  | ((with_reducible refine' go_andP ?a ?b ?_); (case a => (intro QB' hQ; (walk_at "*"); exact hQ)); (case b => (intro QB' hQ; (walk_at "*"); exact hQ)))
  | ((with_reducible refine' go_orP ?a ?b ?_); (case a => (intro QB' hQ; (walk_at "*"); exact hQ)); (case b => (intro QB' hQ; (walk_at "*"); exact hQ)))
  | ((with_reducible refine' go_andVP ?a ?b ?_); (case a => (intro QB' hQ; (walk_at "*"); exact hQ)); (case b => (intro QB' hQ; (walk_at "*"); exact hQ)))
  | ((with_reducible refine' go_orVP ?a ?b ?_); (case a => (intro QB' hQ; (walk_at "*"); exact hQ)); (case b => (intro QB' hQ; (walk_at "*"); exact hQ)))
  | ((with_reducible refine' go_ifxP ?a ?b ?c ?_); (case a => (intro QB' hQ; (walk_at "*"); exact hQ)); (case b => (intro QB' hQ; (walk_at "*"); exact hQ)); (case c => (intro QB' hQ; (walk_at "*"); exact hQ)))
  | with_reducible refine go_and ?_
  | with_reducible refine go_or ?_
  | with_reducible refine go_andV ?_
  | with_reducible refine go_orV ?_
  | with_reducible refine go_notV ?_
  | with_reducible refine go_tru ?_
  | with_reducible refine go_truB ?_
  | with_reducible refine go_truI ?_
  | with_reducible refine go_chain ?_
  | with_reducible refine go_ifx ?_
  | with_reducible refine go_drop ?_
  | with_reducible refine go_un ?_
  | with_reducible refine go_U ?_
  | with_reducible refine go_gcons ?_
  | with_reducible refine go_gnil ?_
  | with_reducible refine go_sub ?_
  | with_reducible refine go_intI ?_
  | with_reducible refine go_intB ?_
  | ((with_reducible refine' go_xT ?a ?b ?_); (case a => walk_at "sqT"); (case b => exact rfl))
  | ((with_reducible refine' go_xL ?a ?b ?_); (case a => walk_at "sqL"); (case b => exact rfl))
  | ((with_reducible refine' go_gtup ?a ?b ?_); (case a => walk_at "sqT"); (case b => exact rfl))
  | with_reducible refine go_sl ?_
  | with_reducible refine go_nopart ?_
  | with_reducible refine go_part ?_
  | with_reducible refine go_partI ?_
  | ((with_reducible refine' go_slT ?a ?b ?c ?_); (case a => walk_at "sqT"); (case b => exact rfl); (case c => exact rfl))
  | with_reducible refine go_min3 ?_
  | with_reducible refine go_max3 ?_
  | with_reducible refine go_disp ?_
  | with_reducible refine go_pairs ?_
  | with_reducible refine go_pairs0 ?_
  | ((with_reducible refine' go_dispK ?a ?b ?c ?_); (case a => first | exact upd_same | assumption); (case b => exact rfl); (case c => exact rfl))
  | with_reducible refine go_next ?_
  | with_reducible refine go_for ?_
  | with_reducible refine go_lc ?_
  | with_reducible refine go_iX ?_
  | with_reducible refine go_rng1 ?_
  | with_reducible refine go_rng2 ?_
  | ((with_reducible refine go_rn1 ?e ?_); (case e => omega))
  | ((with_reducible refine go_rn2 ?e ?_); (case e => omega))
  | with_reducible refine go_yes ?_
  | with_reducible refine go_max ?_
  | with_reducible refine go_min ?_
  | with_reducible refine go_abs ?_
  | ((with_reducible refine' go_isi ?e ?f ?_); (case e => first | exact .base (.int _) | exact .base (.bl _) | exact .base (.str _) | exact .base .non | exact .base (.tup (by assumption)) | exact .base (.lst (by assumption)) | exact .base (.tup (ge2 (by assumption) (by walk_at "same"))) | exact .base (.lst (ge2 (by assumption) (by walk_at "same")))); (case f => first | exact kit_ii | exact kit_ib | exact kit_bb | exact kit_bi | exact kit_ss | exact kit_nb | exact kit_ni | exact kit_ns | exact kit_nt | exact kit_is | exact kit_si | exact kit_sb | exact kit_bs | exact kit_tt | exact kit_ll | exact kit_tl | exact kit_lt))
  | ((with_reducible refine' go_lenT ?a ?_); (case a => walk_at "sqT"))
  | ((with_reducible refine' go_lenL ?a ?_); (case a => walk_at "sqL"))
  | with_reducible refine go_par ?_
  | with_reducible refine go_par3 ?_
  | ((with_reducible refine' go_p3 ?e ?_); (case e => (simp only [List.set_cons_zero, List.set_cons_succ]; rfl)))
  | ((with_reducible refine' go_p2 ?e ?_); (case e => (simp only [List.set_cons_zero, List.set_cons_succ]; rfl)))
  | with_reducible refine go_bm ?_
  | with_reducible refine go_bm0 ?_
  | ((with_reducible refine' go_bmW ?a ?_); (case a => walk_at "ty"))
  | ((with_reducible refine' go_bmW0 ?a ?_); (case a => walk_at "ty"))
  | ((with_reducible refine' go_append ?a ?b ?_); (case a => walk_at "obj"); (case b => first | exact Nat.lt_of_succ_le (Nat.le_of_ble_eq_true rfl) | omega | (simp only [List.length_append, List.length_cons, List.length_nil, List.length_map]; omega)))
  | with_reducible refine go_brk ?_
  | with_reducible refine go_ct ?_
  | with_reducible refine go_bk ?_
  | with_reducible refine go_ctx ?_
  | (with_reducible refine iteT ?_)
  | (with_reducible refine iteNT ?_)
  | (with_reducible refine iteNF ?_)
  | (with_reducible refine iteF ?_)
  | ((with_reducible refine' and_join ?b ?_); (case b => (intro QB' hQ; (walk_at "*"); exact hQ)))
  | ((with_reducible refine' or_join ?b ?_); (case b => (intro QB' hQ; (walk_at "*"); exact hQ)))
  | ((with_reducible refine' andV_join ?b ?_); (case b => (intro QB' hQ; (walk_at "*"); exact hQ)))
  | ((with_reducible refine' orV_join ?b ?_); (case b => (intro QB' hQ; (walk_at "*"); exact hQ))))
local macro_rules | `(tactic| walk_at "*") => `(tactic| ((try dsimp only); (repeat walk_at "1")))
local macro_rules | `(tactic| walk_at "same") => `(tactic| first
  | exact Same.refl _
  | assumption
  | ((refine same_new2 ?_ ?h); (case h => assumption); (walk_at "same"))
  | ((refine same_mut ?_ ?h); (case h => assumption); (walk_at "same"))
  | ((refine same_mut ?_ ?h); (case h => exact Same.free (by walk_at "same") (by assumption)); (walk_at "same"))
  | ((refine' Same.trans ?_ ?h); (case h => assumption); (walk_at "same")))
local macro_rules | `(tactic| walk_at "all") => `(tactic| ((walk_at "*"); first
  | ((refine if2 (fun c => ?_) (fun c => ?_)) <;> (walk_at "all"))
  | ((with_reducible refine go_inT (.of upd_same) rfl rfl ?_); (walk_at "all"))
  | ((with_reducible refine go_ninT (.of upd_same) rfl rfl ?_); (walk_at "all"))
  | ((with_reducible show NewO _ _ _); (intro p hp); (walk_at "all"))
  | skip))

local macro_rules | `(tactic| walk_at "**") => `(tactic| ((try dsimp only); (repeat first
  | walk_at "1"
  | ((with_reducible show NewO _ _ _); (intro p hp))
  | (with_reducible refine go_inT (.of upd_same) rfl rfl ?_)
  | (with_reducible refine go_ninT (.of upd_same) rfl rfl ?_)
  | (with_reducible refine go_inL (.of upd_same) rfl rfl ?_)
  | (with_reducible refine go_ninL (.of upd_same) rfl rfl ?_))))

def top (i : Nat) : Stmt := PySem.Challenge.pw_inningsbook_k12_what_sums_hang_on.main.body.getD i (.Pass ⟨0, 0, 0, 0⟩)
structure Txt (K : PySem.W.Frag) (mg : Str → Option Value) : Prop where
  b_all : mg "all" = none
  b_int : mg "int" = none
  b_len : mg "len" = none
  b_list : mg "list" = none
  b_range : mg "range" = none
  b_tuple : mg "tuple" = none

/-! ### balls: what the defs reckon -/
def ropeS (k : Str) (n : Int) : Bool := decide (n = 4) || (decide (n = 6) && (decide (k = "bat") || decide (k = "no")))
def wayS (k : Str) (n : Int) (rope : Bool) (w : Str) : Bool :=
  if w = "" then true else if w = "run" then !rope else if 0 < n ∨ rope = true then false else if w = "stumped" ∨ w = "hit" then decide (k = "bat") || decide (k = "wide") else decide (k = "bat")
def faultV (k : Str) (n : Int) (rope : Bool) (w : Str) : V :=
  if rope = true ∧ ropeS k n = false then .str "rope" else if wayS k n rope w = false then .str "way" else .non
/-- an entry of a ball -/
abbrev ballL (k : Str) (n : Int) (rope : Bool) (w who e : Str) : List V := [.str "ball", .str k, .int n, .bl rope, .str w, .str who, .str e]
theorem inV2 {k a b : Str} : inV (.str k) [.str a, .str b] = (decide (k = a) || decide (k = b)) := by
  simp [inV, eqV, Bool.beq_eq_decide_eq, eq_comm]
theorem inV3 {k a b c : Str} : inV (.str k) [.str a, .str b, .str c] = (decide (k = a) || (decide (k = b) || decide (k = c))) := by
  simp [inV, eqV, Bool.beq_eq_decide_eq, eq_comm]

def kinds : List Str := ["bat", "bye", "leg", "wide", "no", "nobye"]
def ways : List Str := ["", "bowled", "caught", "before", "stumped", "hit", "run"]
/-! ### rope_stands -/
abbrev s_rope_stands : Stmt := top 1
abbrev N_rope_stands : List Str := ["kind", "runs"]
theorem sc_rope_stands : FnScope N_rope_stands ["kind", "runs"] (defScope s_rope_stands) := ⟨rfl, rfl, rfl, by decide +kernel, rfl, by decide +kernel, by decide +kernel⟩
def pr_rope_stands (K : PySem.W.Frag) : V → V → Hp → VK → XK → Prop := fun a0 a1 H Q E => ∃ (k : Str) (n : Int), a0 = .str k ∧ a1 = .int n ∧ ∀ H', Same H H' → Q (.bl (ropeS k n)) H' 
abbrev sp_rope_stands (K : PySem.W.Frag) : Sp := Sp2 (pr_rope_stands K)
theorem ok_rope_stands {P : Program} {w : World} {K : PySem.W.Frag} {mg : Str → Option Value} {base : Heap} {f : Addr} {fd : FuncData} (F : FunD K "rope_stands" "rope_stands" (defArgs s_rope_stands) (defBody s_rope_stands) (defScope s_rope_stands) [] [] f fd) (T : Txt K mg)  : FnOk P w K mg base CX0 1 f fd ["kind", "runs"] (sp_rope_stands K) := by
  refine F.ok sc_rope_stands (fun vs H Q E h => len2 h) (fun cdv A outer s H vs Q E hr h => ?_)
  obtain ⟨a0, a1, rfl, h⟩ := h
  have hu := hu_of hr
  refine ⟨_, PSs.nox ((pss_one (ps_ret (pe_or (pe_cmpR (op_eqX hr.units) (pv 1) pe_int (nomark _)) (pe_one (pe_and (pe_cmpR (op_eqX hr.units) (pv 1) pe_int (nomark _)) (pe_one (pe_cmpR (op_inX hu) (pv 0) (pe_tup (pa_cons pe_str (pa_cons pe_str pa_nil))) (by rfl))))))))), ?_⟩
  refine go_start (σ := [some a0, some a1]) rfl ?_
  try dsimp only [cxOf, Cx.nox, Cx.wish]
  obtain ⟨k, n, rfl, rfl, hq⟩ := h
  walk_at "*"
  refine if2 (fun c => ?_) (fun c => ?_)
  · walk_at "*"
    exact ret_V (by simp_all [ropeS]) (hq _ (.refl _))
  · walk_at "*"
    refine if2 (fun c2 => ?_) (fun c2 => ?_)
    · walk_at "*"
      intro p hp
      refine go_inT (.of upd_same) rfl rfl ?_
      rw [inV2]
      exact ret_V (by simp_all [ropeS]) (hq _ (same_new hp))
    · exact ret_V (by simp_all [ropeS]) (hq _ (.refl _))
/-! ### way_stands -/
abbrev s_way_stands : Stmt := top 2
abbrev N_way_stands : List Str := ["kind", "runs", "rope", "way"]
theorem sc_way_stands : FnScope N_way_stands ["kind", "runs", "rope", "way"] (defScope s_way_stands) := ⟨rfl, rfl, rfl, by decide +kernel, rfl, by decide +kernel, by decide +kernel⟩
def pr_way_stands (K : PySem.W.Frag) : V → V → V → V → Hp → VK → XK → Prop := fun a0 a1 a2 a3 H Q E => ∃ (k : Str) (n : Int) (rope : Bool) (w : Str), a0 = .str k ∧ a1 = .int n ∧ a2 = .bl rope ∧ a3 = .str w ∧ Q (.bl (wayS k n rope w)) H
abbrev sp_way_stands (K : PySem.W.Frag) : Sp := Sp4 (pr_way_stands K)
theorem ok_way_stands {P : Program} {w : World} {K : PySem.W.Frag} {mg : Str → Option Value} {base : Heap} {f : Addr} {fd : FuncData} (F : FunD K "way_stands" "way_stands" (defArgs s_way_stands) (defBody s_way_stands) (defScope s_way_stands) [] [] f fd) (T : Txt K mg)  : FnOk P w K mg base CX0 1 f fd ["kind", "runs", "rope", "way"] (sp_way_stands K) := by
  refine F.ok sc_way_stands (fun vs H Q E h => len4 h) (fun cdv A outer s H vs Q E hr h => ?_)
  obtain ⟨a0, a1, a2, a3, rfl, h⟩ := h
  have hu := hu_of hr
  refine ⟨_, PSs.nox ((pss_cons (ps_if (pt_cmpR (op_eqX hr.units) (pv 3) pe_str (nomark _)) (pss_one (ps_ret pe_bl)) pss_nil)
      (pss_cons (ps_if (pt_cmpR (op_eqX hr.units) (pv 3) pe_str (nomark _)) (pss_one (ps_ret (pe_not (pv 2)))) pss_nil)
      (pss_cons (ps_if (PW.pt (pw_or (pt_cmpR op_gt (pv 1) pe_int (nomark _)) (pw_or1 (pt_truX (pv 2))))) (pss_one (ps_ret pe_bl)) pss_nil)
      (pss_cons (ps_if (PW.pt (pw_or (pt_cmpR (op_eqX hr.units) (pv 3) pe_str (nomark _)) (pw_or1 (pt_cmpR (op_eqX hr.units) (pv 3) pe_str (nomark _))))) (pss_one (ps_ret (pe_or (pe_cmpR (op_eqX hr.units) (pv 0) pe_str (nomark _)) (pe_one (pe_cmpR (op_eqX hr.units) (pv 0) pe_str (nomark _)))))) pss_nil)
      (pss_one (ps_ret (pe_cmpR (op_eqX hr.units) (pv 0) pe_str (nomark _))))))))), ?_⟩
  refine go_start (σ := [some a0, some a1, some a2, some a3]) rfl ?_
  try dsimp only [cxOf, Cx.nox, Cx.wish]
  obtain ⟨k, n, rope, w, rfl, rfl, rfl, rfl, hq⟩ := h
  walk_at "all"
  all_goals exact ret_V (by simp_all [wayS]) hq
/-! ### ball_fault -/
abbrev s_ball_fault : Stmt := top 3
abbrev N_ball_fault : List Str := ["entry", "word", "kind", "runs", "rope", "way", "who", "end"]
theorem sc_ball_fault : FnScope N_ball_fault ["entry"] (defScope s_ball_fault) := ⟨rfl, rfl, rfl, by decide +kernel, rfl, by decide +kernel, by decide +kernel⟩
def pr_ball_fault (K : PySem.W.Frag) : V → Hp → VK → XK → Prop := fun a0 H Q E => ∃ (p : Addr) (k : Str) (n : Int) (rope : Bool) (w who e : Str), a0 = .ref p ∧ SqT K H p (ballL k n rope w who e) ∧ ∀ H', Same H H' → Q (faultV k n rope w) H' 
abbrev sp_ball_fault (K : PySem.W.Frag) : Sp := Sp1 (pr_ball_fault K)
theorem ok_ball_fault {P : Program} {w : World} {K : PySem.W.Frag} {mg : Str → Option Value} {base : Heap} {f : Addr} {fd : FuncData} (F : FunD K "ball_fault" "ball_fault" (defArgs s_ball_fault) (defBody s_ball_fault) (defScope s_ball_fault) [] [] f fd) (T : Txt K mg) (d_rope_stands : Dn P w K mg base CX0 1 "rope_stands" ["kind", "runs"] [] (sp_rope_stands K)) (d_way_stands : Dn P w K mg base CX0 1 "way_stands" ["kind", "runs", "rope", "way"] [] (sp_way_stands K)) : FnOk P w K mg base CX0 2 f fd ["entry"] (sp_ball_fault K) := by
  refine F.ok sc_ball_fault (fun vs H Q E h => len1 h) (fun cdv A outer s H vs Q E hr h => ?_)
  obtain ⟨a0, rfl, h⟩ := h
  have hu := hu_of hr
  refine ⟨_, PSs.nox ((pss_cons (ps_asg (pv 0) (pg_tup rfl (pgs_cons (pg_name (i := 1) sc_ball_fault.nd rfl (by first | exact Or.inl rfl | exact Or.inr rfl)) (pgs_cons (pg_name (i := 2) sc_ball_fault.nd rfl (by first | exact Or.inl rfl | exact Or.inr rfl)) (pgs_cons (pg_name (i := 3) sc_ball_fault.nd rfl (by first | exact Or.inl rfl | exact Or.inr rfl)) (pgs_cons (pg_name (i := 4) sc_ball_fault.nd rfl (by first | exact Or.inl rfl | exact Or.inr rfl)) (pgs_cons (pg_name (i := 5) sc_ball_fault.nd rfl (by first | exact Or.inl rfl | exact Or.inr rfl)) (pgs_cons (pg_name (i := 6) sc_ball_fault.nd rfl (by first | exact Or.inl rfl | exact Or.inr rfl)) (pgs_cons (pg_name (i := 7) sc_ball_fault.nd rfl (by first | exact Or.inl rfl | exact Or.inr rfl)) pgs_nil)))))))))
      (pss_cons (ps_if (PW.pt (pw_and (pt_truX (pv 4)) (pw_and1 (pt_not (pt_truX (pe_d d_rope_stands (hr.mono (by decide)) rfl pass0 (pa_cons (pv 2) (pa_cons (pv 3) pa_nil)))))))) (pss_one (ps_ret pe_str)) pss_nil)
      (pss_cons (ps_if (pt_not (pt_truX (pe_d d_way_stands (hr.mono (by decide)) rfl pass0 (pa_cons (pv 2) (pa_cons (pv 3) (pa_cons (pv 4) (pa_cons (pv 5) pa_nil))))))) (pss_one (ps_ret pe_str)) pss_nil)
      (pss_one (ps_ret pe_non)))))), ?_⟩
  refine go_start (σ := [some a0, none, none, none, none, none, none, none]) rfl ?_
  try dsimp only [cxOf, Cx.nox, Cx.wish]
  obtain ⟨p, k, n, rope, w, who, e, rfl, hp, hq⟩ := h
  walk_at "*"
  refine if2 (fun c => ?_) (fun c => ?_)
  · walk_at "*"
    refine go_sp2 ⟨k, n, rfl, rfl, fun H1 s1 => ?_⟩
    walk_at "*"
    refine if2 (fun c2 => ?_) (fun c2 => ?_)
    · walk_at "*"
      exact ret_V (by simp_all [faultV]) (hq _ s1)
    walk_at "*"
    refine go_sp4 ⟨k, n, rope, w, rfl, rfl, rfl, rfl, ?_⟩
    walk_at "*"
    refine if2 (fun c3 => ?_) (fun c3 => ?_)
    all_goals walk_at "*"
    all_goals exact ret_V (by simp_all [faultV]) (hq _ s1)
  · walk_at "*"
    refine go_sp4 ⟨k, n, rope, w, rfl, rfl, rfl, rfl, ?_⟩
    walk_at "*"
    refine if2 (fun c3 => ?_) (fun c3 => ?_)
    all_goals walk_at "*"
    all_goals exact ret_V (by simp_all [faultV]) (hq _ (.refl _))

structure Rules where
  (over overs spell wide noball side innings follow : Int)
abbrev rulesL (r : Rules) : List V := [.int r.over, .int r.overs, .int r.spell, .int r.wide, .int r.noball, .int r.side, .int r.innings, .int r.follow]


def givenI (w nb : Int) (k : Str) (n : Int) : Int × Int × Int :=
  if eS k "bat" = true then (n, 0, n) else if eS k "wide" = true then (0, w + n, w + n) else if eS k "no" = true then (n, nb, n + nb) else if eS k "nobye" = true then (0, nb + n, nb) else (0, n, 0)
def sumsL (r : Rules) (k : Str) (n : Int) (rope : Bool) (w : Str) : List V :=
  [.int ((givenI r.wide r.noball k n).1 + (givenI r.wide r.noball k n).2.1), .int (givenI r.wide r.noball k n).1, .int (givenI r.wide r.noball k n).2.1, .int (givenI r.wide r.noball k n).2.2,
    .bl (inV (.str k) [.str "bat", .str "bye", .str "leg"]), .bl (!eS k "wide"), .bl (eI (n % 2) 1 && !rope), .bl (!eS w "" && !eS w "run")]

/-! ### given_by -/
abbrev s_given_by : Stmt := top 4
abbrev N_given_by : List Str := ["rules", "kind", "runs"]
theorem sc_given_by : FnScope N_given_by ["rules", "kind", "runs"] (defScope s_given_by) := ⟨rfl, rfl, rfl, by decide +kernel, rfl, by decide +kernel, by decide +kernel⟩
def pr_given_by (K : PySem.W.Frag) : V → V → V → Hp → VK → XK → Prop := fun a0 a1 a2 H Q E => ∃ (p : Addr) (r : Rules) (k : Str) (n : Int), a0 = .ref p ∧ a1 = .str k ∧ a2 = .int n ∧ SqT K H p (rulesL r) ∧ ∀ (b : Addr) (H' : Hp), H b = none → Same H H' → H' b = some (.tup [.int (givenI r.wide r.noball k n).1, .int (givenI r.wide r.noball k n).2.1, .int (givenI r.wide r.noball k n).2.2]) → Q (.ref b) H' 
abbrev sp_given_by (K : PySem.W.Frag) : Sp := Sp3 (pr_given_by K)
theorem ok_given_by {P : Program} {w : World} {K : PySem.W.Frag} {mg : Str → Option Value} {base : Heap} {f : Addr} {fd : FuncData} (F : FunD K "given_by" "given_by" (defArgs s_given_by) (defBody s_given_by) (defScope s_given_by) [] [] f fd) (T : Txt K mg)  : FnOk P w K mg base CX0 1 f fd ["rules", "kind", "runs"] (sp_given_by K) := by
  refine F.ok sc_given_by (fun vs H Q E h => len3 h) (fun cdv A outer s H vs Q E hr h => ?_)
  obtain ⟨a0, a1, a2, rfl, h⟩ := h
  have hu := hu_of hr
  refine ⟨_, PSs.nox ((pss_cons (ps_if (pt_cmpR (op_eqX hr.units) (pv 1) pe_str (nomark _)) (pss_one (ps_ret (pe_tup (pa_cons (pv 2) (pa_cons pe_int (pa_cons (pv 2) pa_nil)))))) pss_nil)
      (pss_cons (ps_if (pt_cmpR (op_eqX hr.units) (pv 1) pe_str (nomark _)) (pss_one (ps_ret (pe_tup (pa_cons pe_int (pa_cons (pe_op op_addX (pe_ix (ix_X hu) (pv 0) pe_int (fun _ _ => rfl)) (pv 2)) (pa_cons (pe_op op_addX (pe_ix (ix_X hu) (pv 0) pe_int (fun _ _ => rfl)) (pv 2)) pa_nil)))))) pss_nil)
      (pss_cons (ps_if (pt_cmpR (op_eqX hr.units) (pv 1) pe_str (nomark _)) (pss_one (ps_ret (pe_tup (pa_cons (pv 2) (pa_cons (pe_ix (ix_X hu) (pv 0) pe_int (fun _ _ => rfl)) (pa_cons (pe_op op_addX (pv 2) (pe_ix (ix_X hu) (pv 0) pe_int (fun _ _ => rfl))) pa_nil)))))) pss_nil)
      (pss_cons (ps_if (pt_cmpR (op_eqX hr.units) (pv 1) pe_str (nomark _)) (pss_one (ps_ret (pe_tup (pa_cons pe_int (pa_cons (pe_op op_addX (pe_ix (ix_X hu) (pv 0) pe_int (fun _ _ => rfl)) (pv 2)) (pa_cons (pe_ix (ix_X hu) (pv 0) pe_int (fun _ _ => rfl)) pa_nil)))))) pss_nil)
      (pss_one (ps_ret (pe_tup (pa_cons pe_int (pa_cons (pv 2) (pa_cons pe_int pa_nil))))))))))), ?_⟩
  refine go_start (σ := [some a0, some a1, some a2]) rfl ?_
  try dsimp only [cxOf, Cx.nox, Cx.wish]
  obtain ⟨p, r, k, n, rfl, rfl, rfl, hp, hq⟩ := h
  walk_at "all"
  all_goals exact hq _ _ (by assumption) (by walk_at "same") (by rw [upd_same]; simp only [givenI, *, if_true, if_false, Bool.false_eq_true, Bool.true_and, Bool.false_and, Bool.and_true, Bool.and_false, Bool.true_or, Bool.false_or, Bool.or_true, Bool.or_false, Bool.not_true, Bool.not_false])
/-! ### ball_sums -/
abbrev s_ball_sums : Stmt := top 5
abbrev N_ball_sums : List Str := ["rules", "entry", "fair", "crossed", "credited", "word", "kind", "runs", "rope", "way", "who", "end", "bat", "extra", "charged"]
theorem sc_ball_sums : FnScope N_ball_sums ["rules", "entry"] (defScope s_ball_sums) := ⟨rfl, rfl, rfl, by decide +kernel, rfl, by decide +kernel, by decide +kernel⟩
def pr_ball_sums (K : PySem.W.Frag) : V → V → Hp → VK → XK → Prop := fun a0 a1 H Q E => ∃ (p q : Addr) (r : Rules) (k : Str) (n : Int) (rope : Bool) (w who e : Str), a0 = .ref p ∧ a1 = .ref q ∧ SqT K H p (rulesL r) ∧ SqT K H q (ballL k n rope w who e) ∧ ∀ (b : Addr) (H' : Hp), H b = none → Same H H' → H' b = some (.tup (sumsL r k n rope w)) → Q (.ref b) H' 
abbrev sp_ball_sums (K : PySem.W.Frag) : Sp := Sp2 (pr_ball_sums K)
theorem ok_ball_sums {P : Program} {w : World} {K : PySem.W.Frag} {mg : Str → Option Value} {base : Heap} {f : Addr} {fd : FuncData} (F : FunD K "ball_sums" "ball_sums" (defArgs s_ball_sums) (defBody s_ball_sums) (defScope s_ball_sums) [] [] f fd) (T : Txt K mg) (d_given_by : Dn P w K mg base CX0 1 "given_by" ["rules", "kind", "runs"] [] (sp_given_by K)) : FnOk P w K mg base CX0 2 f fd ["rules", "entry"] (sp_ball_sums K) := by
  refine F.ok sc_ball_sums (fun vs H Q E h => len2 h) (fun cdv A outer s H vs Q E hr h => ?_)
  obtain ⟨a0, a1, rfl, h⟩ := h
  have hu := hu_of hr
  refine ⟨_, PSs.nox ((pss_cons (ps_asg (pv 1) (pg_tup rfl (pgs_cons (pg_name (i := 5) sc_ball_sums.nd rfl (by first | exact Or.inl rfl | exact Or.inr rfl)) (pgs_cons (pg_name (i := 6) sc_ball_sums.nd rfl (by first | exact Or.inl rfl | exact Or.inr rfl)) (pgs_cons (pg_name (i := 7) sc_ball_sums.nd rfl (by first | exact Or.inl rfl | exact Or.inr rfl)) (pgs_cons (pg_name (i := 8) sc_ball_sums.nd rfl (by first | exact Or.inl rfl | exact Or.inr rfl)) (pgs_cons (pg_name (i := 9) sc_ball_sums.nd rfl (by first | exact Or.inl rfl | exact Or.inr rfl)) (pgs_cons (pg_name (i := 10) sc_ball_sums.nd rfl (by first | exact Or.inl rfl | exact Or.inr rfl)) (pgs_cons (pg_name (i := 11) sc_ball_sums.nd rfl (by first | exact Or.inl rfl | exact Or.inr rfl)) pgs_nil)))))))))
      (pss_cons (ps_asg (pe_d d_given_by (hr.mono (by decide)) rfl pass0 (pa_cons (pv 0) (pa_cons (pv 6) (pa_cons (pv 7) pa_nil)))) (pg_tup rfl (pgs_cons (pg_name (i := 12) sc_ball_sums.nd rfl (by first | exact Or.inl rfl | exact Or.inr rfl)) (pgs_cons (pg_name (i := 13) sc_ball_sums.nd rfl (by first | exact Or.inl rfl | exact Or.inr rfl)) (pgs_cons (pg_name (i := 14) sc_ball_sums.nd rfl (by first | exact Or.inl rfl | exact Or.inr rfl)) pgs_nil)))))
      (pss_cons (ps_set (i := 2) sc_ball_sums.nd rfl (by first | exact Or.inl rfl | exact Or.inr rfl) (pe_cmpR (op_inX hu) (pv 6) (pe_tup (pa_cons pe_str (pa_cons pe_str (pa_cons pe_str pa_nil)))) (by rfl)))
      (pss_cons (ps_set (i := 3) sc_ball_sums.nd rfl (by first | exact Or.inl rfl | exact Or.inr rfl) (pe_and (pe_cmpR (op_eqX hr.units) (pe_op op_mod (pv 7) pe_int) pe_int (nomark _)) (pe_one (pe_not (pv 8)))))
      (pss_cons (ps_set (i := 4) sc_ball_sums.nd rfl (by first | exact Or.inl rfl | exact Or.inr rfl) (pe_and (pe_cmpR (op_neX hr.units) (pv 9) pe_str (nomark _)) (pe_one (pe_cmpR (op_neX hr.units) (pv 9) pe_str (nomark _)))))
      (pss_one (ps_ret (pe_tup (pa_cons (pe_op op_addX (pv 12) (pv 13)) (pa_cons (pv 12) (pa_cons (pv 13) (pa_cons (pv 14) (pa_cons (pv 2) (pa_cons (pe_cmpR (op_neX hr.units) (pv 6) pe_str (nomark _)) (pa_cons (pv 3) (pa_cons (pv 4) pa_nil))))))))))))))))), ?_⟩
  refine go_start (σ := [some a0, some a1, none, none, none, none, none, none, none, none, none, none, none, none, none]) rfl ?_
  try dsimp only [cxOf, Cx.nox, Cx.wish]
  obtain ⟨p, q, r, k, n, rope, w, who, e, rfl, rfl, hp, hb, hq⟩ := h
  walk_at "*"
  refine go_sp3 ⟨p, r, k, n, rfl, rfl, rfl, hp, fun b H1 h1 s1 e1 => ?_⟩
  walk_at "*"
  intro b2 h2
  walk_at "*"
  refine go_inT (.of upd_same) rfl rfl ?_
  walk_at "*"
  intro b3 h3
  exact hq _ _ (s1.free (same_new h2 |>.free h3)) (by walk_at "same") upd_same
/-! ### _law_mixed -/
abbrev s__law_mixed : Stmt := top 7
abbrev N__law_mixed : List Str := ["_law_cell", "_law_k", "_law_m"]
theorem sc__law_mixed : FnScope N__law_mixed ["_law_cell", "_law_k"] (defScope s__law_mixed) := ⟨rfl, rfl, rfl, by decide +kernel, rfl, by decide +kernel, by decide +kernel⟩
def pr__law_mixed (K : PySem.W.Frag) : V → V → Hp → VK → XK → Prop := fun a0 a1 H Q E => ∃ c k : Int, a0 = .int c ∧ a1 = .int k ∧ 0 ≤ k ∧ k ≤ 10000 ∧ ∀ r : Int, 0 ≤ r → r < 2147483587 → Q (.int r) H
abbrev sp__law_mixed (K : PySem.W.Frag) : Sp := Sp2 (pr__law_mixed K)
theorem ok__law_mixed {P : Program} {w : World} {K : PySem.W.Frag} {mg : Str → Option Value} {base : Heap} {f : Addr} {fd : FuncData} (F : FunD K "_law_mixed" "_law_mixed" (defArgs s__law_mixed) (defBody s__law_mixed) (defScope s__law_mixed) [] [] f fd) (T : Txt K mg)  : FnOk P w K mg base CX0 1 f fd ["_law_cell", "_law_k"] (sp__law_mixed K) := by
  refine F.ok sc__law_mixed (fun vs H Q E h => len2 h) (fun cdv A outer s H vs Q E hr h => ?_)
  obtain ⟨a0, a1, rfl, h⟩ := h
  have hu := hu_of hr
  refine ⟨_, PSs.nox ((pss_cons (ps_set (i := 2) sc__law_mixed.nd rfl (by first | exact Or.inl rfl | exact Or.inr rfl) (pe_op op_mod (pe_op op_addX (pe_op op_mulX (pe_op op_mod (pv 0) pe_int) pe_int) (pe_op op_mulX (pe_op op_addX (pe_op op_addX (pe_op op_mulX (pv 1) (pv 1)) (pe_op op_mulX pe_int (pv 1))) pe_int) pe_int)) pe_int))
      (pss_cons (ps_set (i := 2) sc__law_mixed.nd rfl (by first | exact Or.inl rfl | exact Or.inr rfl) (pe_op op_addX (pe_op op_mod (pe_op op_mulX (pv 2) (pv 2)) pe_int) (pv 1)))
      (pss_one (ps_ret (pe_op op_mod (pe_op op_mulX (pv 2) (pe_op op_addX (pe_op op_addX (pe_op op_fdiv (pv 2) pe_int) (pe_op op_mulX pe_int (pv 1))) pe_int)) pe_int)))))), ?_⟩
  refine go_start (σ := [some a0, some a1, none]) rfl ?_
  try dsimp only [cxOf, Cx.nox, Cx.wish]
  obtain ⟨c, k, rfl, rfl, h1, h2, hq⟩ := h
  walk_at "*"
  exact hq _ (Int.emod_nonneg _ (by decide)) (Int.emod_lt_of_pos _ (by decide))

/-- a pot at p: its count below n -/
def Pot (H : Hp) (p : Addr) (n : Int) : Prop := ∃ a c f : Int, H p = some (.lst [.int a, .int c, .int f]) ∧ 0 ≤ c ∧ c ≤ n
theorem Pot.kp {H H' : Hp} {p q : Addr} {n : Int} (h : Pot H p n) (hq : p ≠ q) (k : Kp (fun a => a = q) H H') : Pot H' p n := by
  obtain ⟨a, c, f, e, r⟩ := h
  exact ⟨a, c, f, k _ _ e hq, r⟩
theorem Pot.same {H H' : Hp} {p : Addr} {n : Int} (h : Pot H p n) (k : Same H H') : Pot H' p n := by
  obtain ⟨a, c, f, e, r⟩ := h
  exact ⟨a, c, f, k _ _ e, r⟩
theorem Pot.le {H : Hp} {p : Addr} {n m : Int} (h : Pot H p n) (k : n ≤ m) : Pot H p m := by
  obtain ⟨a, c, f, e, r, s⟩ := h
  exact ⟨a, c, f, e, r, by omega⟩
theorem Pot.ne {H : Hp} {p l : Addr} {n : Int} (h : Pot H p n) (hl : H l = none) : l ≠ p := by
  obtain ⟨a, c, f, e, r⟩ := h
  exact (ne_of_none e hl).symm
/-- what is new behind was new ahead -/
theorem _root_.L2.A.Kp.back {H H' : Hp} {p b : Addr} {o : HO} (k : Kp (fun a => a = p) H H') (hp : H' p = some o) (hb : H' b = none) : H b = none := by
  cases e : H b with
  | none => rfl
  | some u =>
    have n : ¬ b = p := by
      rintro rfl
      rw [hp] at hb
      cases hb
    have q := k b u e n
    rw [hb] at q
    cases q
theorem Pot.is {H : Hp} {p : Addr} {n : Int} (h : Pot H p n) : H p = some (.lst (match H p with | some (.lst xs) => xs | _ => [])) := by
  obtain ⟨a, c, f, e, r⟩ := h
  rw [e]

/-! ### _law_take -/
abbrev s__law_take : Stmt := top 8
abbrev N__law_take : List Str := ["_law_pot_here", "_law_many", "_law_got"]
theorem sc__law_take : FnScope N__law_take ["_law_pot_here", "_law_many"] (defScope s__law_take) := ⟨rfl, rfl, rfl, by decide +kernel, rfl, by decide +kernel, by decide +kernel⟩
def pr__law_take (K : PySem.W.Frag) : V → V → Hp → VK → XK → Prop := fun a0 a1 H Q E => ∃ (p : Addr) (n m : Int), a0 = .ref p ∧ a1 = .int m ∧ Pot H p n ∧ n ≤ 9000 ∧ 1 ≤ m ∧ m < 1073741824 ∧ ∀ (r : Int) (H' : Hp), 0 ≤ r → r < m → Kp (fun a => a = p) H H' → Pot H' p (n + 1) → Q (.int r) H' 
abbrev sp__law_take (K : PySem.W.Frag) : Sp := Sp2 (pr__law_take K)
theorem ok__law_take {P : Program} {w : World} {K : PySem.W.Frag} {mg : Str → Option Value} {base : Heap} {f : Addr} {fd : FuncData} (F : FunD K "_law_take" "_law_take" (defArgs s__law_take) (defBody s__law_take) (defScope s__law_take) [] [] f fd) (T : Txt K mg) (d__law_mixed : Dn P w K mg base CX0 1 "_law_mixed" ["_law_cell", "_law_k"] [] (sp__law_mixed K)) : FnOk P w K mg base CX0 2 f fd ["_law_pot_here", "_law_many"] (sp__law_take K) := by
  refine F.ok sc__law_take (fun vs H Q E h => len2 h) (fun cdv A outer s H vs Q E hr h => ?_)
  obtain ⟨a0, a1, rfl, h⟩ := h
  have hu := hu_of hr
  refine ⟨_, PSs.nox ((pss_cons (ps_asg (pe_op op_addX (pe_ix (ix_X hu) (pv 0) pe_int (fun _ _ => rfl)) pe_int) (pg_sub (pv 0) pe_int (set_X hu)))
      (pss_cons (ps_if (pt_cmpR (op_eqX hr.units) (pe_ix (ix_X hu) (pv 0) pe_int (fun _ _ => rfl)) pe_int (nomark _)) (pss_cons (ps_set (i := 2) sc__law_take.nd rfl (by first | exact Or.inl rfl | exact Or.inr rfl) (pe_op op_mod (pe_ix (ix_X hu) (pv 0) pe_int (fun _ _ => rfl)) (pv 1)))
      (pss_cons (ps_asg (pe_op op_fdiv (pe_ix (ix_X hu) (pv 0) pe_int (fun _ _ => rfl)) (pv 1)) (pg_sub (pv 0) pe_int (set_X hu)))
      (pss_one (ps_ret (pv 2))))) pss_nil)
      (pss_one (ps_ret (pe_op op_mod (pe_d d__law_mixed (hr.mono (by decide)) rfl pass0 (pa_cons (pe_ix (ix_X hu) (pv 0) pe_int (fun _ _ => rfl)) (pa_cons (pe_ix (ix_X hu) (pv 0) pe_int (fun _ _ => rfl)) pa_nil))) (pv 1))))))), ?_⟩
  refine go_start (σ := [some a0, some a1, none]) rfl ?_
  try dsimp only [cxOf, Cx.nox, Cx.wish]
  obtain ⟨p, n', m, rfl, rfl, ⟨n, c, f, hp, h1, h2⟩, h2', h3, h4, hq⟩ := h
  walk_at "*"
  refine go_sL hp rfl ?_
  walk_at "*"
  refine if2 (fun c => ?_) (fun c => ?_)
  · walk_at "*"
    refine go_sL upd_same rfl ?_
    walk_at "*"
    rw [upd_upd]
    exact hq _ _ (Int.emod_nonneg _ (by omega)) (Int.emod_lt_of_pos _ (by omega)) Kp.upd ⟨_, _, _, upd_same, by omega, by omega⟩
  · walk_at "*"
    refine go_sp2 ⟨_, _, rfl, rfl, by omega, by omega, fun r _ _ => ?_⟩
    walk_at "*"
    exact hq _ _ (Int.emod_nonneg _ (by omega)) (Int.emod_lt_of_pos _ (by omega)) Kp.upd ⟨_, _, _, upd_same, by omega, by omega⟩
/-! ### _law_pot -/
abbrev s__law_pot : Stmt := top 9
abbrev N__law_pot : List Str := ["_law_cell"]
theorem sc__law_pot : FnScope N__law_pot ["_law_cell"] (defScope s__law_pot) := ⟨rfl, rfl, rfl, by decide +kernel, rfl, by decide +kernel, by decide +kernel⟩
def pr__law_pot (K : PySem.W.Frag) : V → Hp → VK → XK → Prop := fun a0 H Q E => ∃ n : Int, a0 = .int n ∧ ∀ (p : Addr) (H' : Hp), H p = none → Same H H' → Pot H' p 0 → Q (.ref p) H' 
abbrev sp__law_pot (K : PySem.W.Frag) : Sp := Sp1 (pr__law_pot K)
theorem ok__law_pot {P : Program} {w : World} {K : PySem.W.Frag} {mg : Str → Option Value} {base : Heap} {f : Addr} {fd : FuncData} (F : FunD K "_law_pot" "_law_pot" (defArgs s__law_pot) (defBody s__law_pot) (defScope s__law_pot) [] [] f fd) (T : Txt K mg)  : FnOk P w K mg base CX0 1 f fd ["_law_cell"] (sp__law_pot K) := by
  refine F.ok sc__law_pot (fun vs H Q E h => len1 h) (fun cdv A outer s H vs Q E hr h => ?_)
  obtain ⟨a0, rfl, h⟩ := h
  have hu := hu_of hr
  refine ⟨_, PSs.nox ((pss_one (ps_ret (pe_lst (pa_cons (pe_op op_fdiv (pv 0) pe_int) (pa_cons pe_int (pa_cons (pe_op op_mod (pv 0) pe_int) pa_nil))))))), ?_⟩
  refine go_start (σ := [some a0]) rfl ?_
  try dsimp only [cxOf, Cx.nox, Cx.wish]
  obtain ⟨n, rfl, hq⟩ := h
  walk_at "*"
  exact fun p hp => hq p _ hp (same_new hp) ⟨_, _, _, upd_same, by omega, by omega⟩

structure Rules.Ok (r : Rules) : Prop where
  over : 1 ≤ r.over ∧ r.over ≤ 12
  overs : 0 ≤ r.overs ∧ r.overs ≤ 99
  spell : 0 ≤ r.spell ∧ r.spell ≤ 99
  wide : 0 ≤ r.wide ∧ r.wide ≤ 9
  noball : 0 ≤ r.noball ∧ r.noball ≤ 9
  side : 2 ≤ r.side ∧ r.side ≤ 11
  innings : 1 ≤ r.innings ∧ r.innings ≤ 2
  follow : 0 ≤ r.follow ∧ r.follow ≤ 999

/-! ### _law_rules -/
abbrev s__law_rules : Stmt := top 12
abbrev N__law_rules : List Str := ["_law_pot_here", "_law_rules_here"]
theorem sc__law_rules : FnScope N__law_rules ["_law_pot_here"] (defScope s__law_rules) := ⟨rfl, rfl, rfl, by decide +kernel, rfl, by decide +kernel, by decide +kernel⟩
def pr__law_rules (K : PySem.W.Frag) : V → Hp → VK → XK → Prop := fun a0 H Q E => ∃ (p : Addr) (n : Int), a0 = .ref p ∧ Pot H p n ∧ n ≤ 7000 ∧ ∀ (b : Addr) (r : Rules) (H' : Hp), H b = none → H' b = some (.tup (rulesL r)) → r.Ok → Kp (fun a => a = p) H H' → Pot H' p (n + 8) → Q (.ref b) H' 
abbrev sp__law_rules (K : PySem.W.Frag) : Sp := Sp1 (pr__law_rules K)
theorem ok__law_rules {P : Program} {w : World} {K : PySem.W.Frag} {mg : Str → Option Value} {base : Heap} {f : Addr} {fd : FuncData} (F : FunD K "_law_rules" "_law_rules" (defArgs s__law_rules) (defBody s__law_rules) (defScope s__law_rules) [] [] f fd) (T : Txt K mg) (d__law_take : Dn P w K mg base CX0 2 "_law_take" ["_law_pot_here", "_law_many"] [] (sp__law_take K)) : FnOk P w K mg base CX0 3 f fd ["_law_pot_here"] (sp__law_rules K) := by
  refine F.ok sc__law_rules (fun vs H Q E h => len1 h) (fun cdv A outer s H vs Q E hr h => ?_)
  obtain ⟨a0, rfl, h⟩ := h
  have hu := hu_of hr
  refine ⟨_, PSs.nox ((pss_cons (ps_set (i := 1) sc__law_rules.nd rfl (by first | exact Or.inl rfl | exact Or.inr rfl) (pe_lst (pa_cons (pe_op op_addX pe_int (pe_d d__law_take (hr.mono (by decide)) rfl pass0 (pa_cons (pv 0) (pa_cons pe_int pa_nil)))) (pa_cons (pe_d d__law_take (hr.mono (by decide)) rfl pass0 (pa_cons (pv 0) (pa_cons pe_int pa_nil))) (pa_cons (pe_d d__law_take (hr.mono (by decide)) rfl pass0 (pa_cons (pv 0) (pa_cons pe_int pa_nil))) (pa_cons (pe_d d__law_take (hr.mono (by decide)) rfl pass0 (pa_cons (pv 0) (pa_cons pe_int pa_nil))) pa_nil))))))
      (pss_one (ps_ret (pe_callTy call_tupO (by rfl) T.b_tuple L2.A.boot_tuple (pa_cons (pe_op op_addX (pv 1) (pe_lst (pa_cons (pe_d d__law_take (hr.mono (by decide)) rfl pass0 (pa_cons (pv 0) (pa_cons pe_int pa_nil))) (pa_cons (pe_op op_addX pe_int (pe_d d__law_take (hr.mono (by decide)) rfl pass0 (pa_cons (pv 0) (pa_cons pe_int pa_nil)))) (pa_cons (pe_op op_addX pe_int (pe_d d__law_take (hr.mono (by decide)) rfl pass0 (pa_cons (pv 0) (pa_cons pe_int pa_nil)))) (pa_cons (pe_d d__law_take (hr.mono (by decide)) rfl pass0 (pa_cons (pv 0) (pa_cons pe_int pa_nil))) pa_nil)))))) pa_nil)))))), ?_⟩
  refine go_start (σ := [some a0, none]) rfl ?_
  try dsimp only [cxOf, Cx.nox, Cx.wish]
  obtain ⟨p, n, rfl, hp, hn, hq⟩ := h
  walk_at "*"
  
  refine go_sp2 ⟨p, _, 12, rfl, rfl, hp, by omega, by omega, by omega, fun r1 H1 h0_1 h1_1 k1 p1 => ?_⟩
  have q1 := k1
  have k1 := Kp.refl.trans k1
  walk_at "*"
  refine go_sp2 ⟨p, _, 100, rfl, rfl, p1, by omega, by omega, by omega, fun r2 H2 h0_2 h1_2 k2 p2 => ?_⟩
  have q2 := k2
  have k2 := k1.trans k2
  walk_at "*"
  refine go_sp2 ⟨p, _, 100, rfl, rfl, p2, by omega, by omega, by omega, fun r3 H3 h0_3 h1_3 k3 p3 => ?_⟩
  have q3 := k3
  have k3 := k2.trans k3
  walk_at "*"
  refine go_sp2 ⟨p, _, 10, rfl, rfl, p3, by omega, by omega, by omega, fun r4 H4 h0_4 h1_4 k4 p4 => ?_⟩
  have q4 := k4
  have k4 := k3.trans k4
  walk_at "*"
  intro l hl
  walk_at "*"
  have k4' : Kp (fun a => a = p) H (upd H4 l (.lst [.int (1 + r1), .int r2, .int r3, .int r4])) := k4.trans (Kp.same (same_new hl))
  
  refine go_sp2 ⟨p, _, 10, rfl, rfl, (p4.same (same_new hl)), by omega, by omega, by omega, fun r5 H5 h0_5 h1_5 k5 p5 => ?_⟩
  have q5 := k5
  have k5 := k4'.trans k5
  walk_at "*"
  refine go_sp2 ⟨p, _, 10, rfl, rfl, p5, by omega, by omega, by omega, fun r6 H6 h0_6 h1_6 k6 p6 => ?_⟩
  have q6 := k6
  have k6 := k5.trans k6
  walk_at "*"
  refine go_sp2 ⟨p, _, 2, rfl, rfl, p6, by omega, by omega, by omega, fun r7 H7 h0_7 h1_7 k7 p7 => ?_⟩
  have q7 := k7
  have k7 := k6.trans k7
  walk_at "*"
  refine go_sp2 ⟨p, _, 1000, rfl, rfl, p7, by omega, by omega, by omega, fun r8 H8 h0_8 h1_8 k8 p8 => ?_⟩
  have q8 := k8
  have k8 := k7.trans k8
  walk_at "*"
  intro l2 hl2
  walk_at "*"
  have np : l ≠ p := p4.ne hl
  have h8 : H8 l = some (.lst [.int (1 + r1), .int r2, .int r3, .int r4]) := q8 _ _ (q7 _ _ (q6 _ _ (q5 _ _ upd_same np) np) np) np
  refine go_addL (by rw [upd_ne (ne_of_none h8 hl2)]; exact h8) upd_same (szl (Nat.le_of_ble_eq_true rfl)) ?_
  intro l3 hl3
  walk_at "*"
  refine go_tupL (.of upd_same) ?_
  intro b hb
  refine hq b ⟨1 + r1, r2, r3, r4, r5, 2 + r6, 1 + r7, r8⟩ _ (k8.back p8.is (upd_free (upd_free hb))) upd_same ⟨?_, ?_, ?_, ?_, ?_, ?_, ?_, ?_⟩ (k8.trans (Kp.same (by walk_at "same"))) ((p8.same (by walk_at "same")).le (by omega))
  all_goals (constructor <;> dsimp only <;> omega)
/-! ### _law_word -/
abbrev s__law_word : Stmt := top 10
abbrev N__law_word : List Str := ["_law_pot_here", "_law_word_here", "_law_k"]
theorem sc__law_word : FnScope N__law_word ["_law_pot_here"] (defScope s__law_word) := ⟨rfl, rfl, rfl, by decide +kernel, rfl, by decide +kernel, by decide +kernel⟩
def pr__law_word (K : PySem.W.Frag) : V → Hp → VK → XK → Prop := fun a0 H Q E => ∃ (p : Addr) (n : Int), a0 = .ref p ∧ Pot H p n ∧ n ≤ 8000 ∧ ∀ (z : Str) (H' : Hp), z.length ≤ 8 → Kp (fun a => a = p) H H' → Pot H' p (n + 9) → Q (.str z) H' 
abbrev sp__law_word (K : PySem.W.Frag) : Sp := Sp1 (pr__law_word K)
theorem ok__law_word {P : Program} {w : World} {K : PySem.W.Frag} {mg : Str → Option Value} {base : Heap} {f : Addr} {fd : FuncData} (F : FunD K "_law_word" "_law_word" (defArgs s__law_word) (defBody s__law_word) (defScope s__law_word) [] [] f fd) (T : Txt K mg) (d__law_take : Dn P w K mg base CX0 2 "_law_take" ["_law_pot_here", "_law_many"] [] (sp__law_take K)) : FnOk P w K mg base CX0 3 f fd ["_law_pot_here"] (sp__law_word K) := by
  refine F.ok sc__law_word (fun vs H Q E h => len1 h) (fun cdv A outer s H vs Q E hr h => ?_)
  obtain ⟨a0, rfl, h⟩ := h
  have hu := hu_of hr
  refine ⟨_, PSs.nox ((pss_cons (ps_set (i := 1) sc__law_word.nd rfl (by first | exact Or.inl rfl | exact Or.inr rfl) pe_str)
      (pss_cons (ps_for PassesOwn.never rfl (pi_range1 rfl T.b_range (pa_cons (pe_op op_addX pe_int (pe_d d__law_take (hr.mono (by decide)) rfl pass0 (pa_cons (pv 0) (pa_cons pe_int pa_nil)))) pa_nil)) (pg_name (i := 2) sc__law_word.nd rfl (by first | exact Or.inl rfl | exact Or.inr rfl)) (pss_one (ps_set (i := 1) sc__law_word.nd rfl (by first | exact Or.inl rfl | exact Or.inr rfl) (pe_op op_addX (pv 1) (pe_ix (ix_X hu) pe_str (pe_d d__law_take (hr.mono (by decide)) rfl pass0 (pa_cons (pv 0) (pa_cons pe_int pa_nil))) (fun _ _ => rfl))))))
      (pss_one (ps_ret (pv 1)))))), ?_⟩
  refine go_start (σ := [some a0, none, none]) rfl ?_
  try dsimp only [cxOf, Cx.nox, Cx.wish]
  obtain ⟨p, n, rfl, hp, hn, hq⟩ := h
  walk_at "*"
  refine go_sp2 ⟨p, n, _, rfl, rfl, hp, by omega, by omega, by omega, fun r H1 h0 h1 k1 p1 => ?_⟩
  walk_at "*"
  refine ForW.range (fun i σ H' => ∃ (z : Str) (v : Option V), σ = [some (.ref p), some (.str z), v] ∧ z.length = i ∧ Kp (fun a => a = p) H H' ∧ Pot H' p (n + 1 + i)) ⟨"", none, rfl, by decide +kernel, k1, p1.le (by omega)⟩ ?_ ?_
  · rintro i σ H' hi ⟨z, v, rfl, hz, k, pt⟩
    walk_at "*"
    refine go_sp2 ⟨p, _, _, rfl, rfl, pt, by omega, by omega, by omega, fun r2 H2 g0 g1 k2 p2 => ?_⟩
    obtain ⟨c, e, m⟩ := sign_some (z := "bcdfghjklmnpqrstvwxz") g0 (by exact g1)
    walk_at "*"
    refine go_xS (szl (Nat.le_of_ble_eq_true rfl)) e ?_
    walk_at "*"
    refine go_addS (by rw [len_one, hz]; exact szl (by omega)) ?_
    walk_at "*"
    exact ⟨_, _, rfl, by rw [len_app, len_one, hz], k.trans k2, p2.le (by omega)⟩
  · rintro σ H' ⟨z, v, rfl, hz, k, pt⟩
    walk_at "*"
    exact hq _ _ (by omega) k (pt.le (by omega))
/-! ### _law_ball -/
abbrev s__law_ball : Stmt := top 11
abbrev N__law_ball : List Str := ["_law_pot_here", "_law_kind", "_law_way", "_law_rope", "_law_runs", "_law_few"]
theorem sc__law_ball : FnScope N__law_ball ["_law_pot_here"] (defScope s__law_ball) := ⟨rfl, rfl, rfl, by decide +kernel, rfl, by decide +kernel, by decide +kernel⟩
def pr__law_ball (K : PySem.W.Frag) : V → Hp → VK → XK → Prop := fun a0 H Q E => ∃ (p : Addr) (n : Int), a0 = .ref p ∧ Pot H p n ∧ n ≤ 7000 ∧ ∀ (b : Addr) (k : Str) (m : Int) (rope : Bool) (w who e : Str) (H' : Hp), H b = none → H' b = some (.tup (ballL k m rope w who e)) → k ∈ kinds → w ∈ ways → 0 ≤ m → m ≤ 9 → Kp (fun a => a = p) H H' → Pot H' p (n + 15) → Q (.ref b) H' 
abbrev sp__law_ball (K : PySem.W.Frag) : Sp := Sp1 (pr__law_ball K)
theorem ok__law_ball {P : Program} {w : World} {K : PySem.W.Frag} {mg : Str → Option Value} {base : Heap} {f : Addr} {fd : FuncData} (F : FunD K "_law_ball" "_law_ball" (defArgs s__law_ball) (defBody s__law_ball) (defScope s__law_ball) [] [] f fd) (T : Txt K mg) (d__law_take : Dn P w K mg base CX0 2 "_law_take" ["_law_pot_here", "_law_many"] [] (sp__law_take K)) (d__law_word : Dn P w K mg base CX0 3 "_law_word" ["_law_pot_here"] [] (sp__law_word K)) : FnOk P w K mg base CX0 4 f fd ["_law_pot_here"] (sp__law_ball K) := by
  refine F.ok sc__law_ball (fun vs H Q E h => len1 h) (fun cdv A outer s H vs Q E hr h => ?_)
  obtain ⟨a0, rfl, h⟩ := h
  have hu := hu_of hr
  refine ⟨_, PSs.nox ((pss_cons (ps_set (i := 1) sc__law_ball.nd rfl (by first | exact Or.inl rfl | exact Or.inr rfl) (pe_ix (ix_X hu) (pe_lst (pa_cons pe_str (pa_cons pe_str (pa_cons pe_str (pa_cons pe_str (pa_cons pe_str (pa_cons pe_str pa_nil))))))) (pe_d d__law_take (hr.mono (by decide)) rfl pass0 (pa_cons (pv 0) (pa_cons pe_int pa_nil))) (fun _ _ => rfl)))
      (pss_cons (ps_set (i := 2) sc__law_ball.nd rfl (by first | exact Or.inl rfl | exact Or.inr rfl) (pe_ix (ix_X hu) (pe_lst (pa_cons pe_str (pa_cons pe_str (pa_cons pe_str (pa_cons pe_str (pa_cons pe_str (pa_cons pe_str (pa_cons pe_str pa_nil)))))))) (pe_d d__law_take (hr.mono (by decide)) rfl pass0 (pa_cons (pv 0) (pa_cons pe_int pa_nil))) (fun _ _ => rfl)))
      (pss_cons (ps_set (i := 3) sc__law_ball.nd rfl (by first | exact Or.inl rfl | exact Or.inr rfl) (pe_cmpR (op_eqX hr.units) (pe_d d__law_take (hr.mono (by decide)) rfl pass0 (pa_cons (pv 0) (pa_cons pe_int pa_nil))) pe_int (nomark _)))
      (pss_cons (ps_set (i := 4) sc__law_ball.nd rfl (by first | exact Or.inl rfl | exact Or.inr rfl) (pe_d d__law_take (hr.mono (by decide)) rfl pass0 (pa_cons (pv 0) (pa_cons pe_int pa_nil))))
      (pss_cons (ps_set (i := 5) sc__law_ball.nd rfl (by first | exact Or.inl rfl | exact Or.inr rfl) (pe_d d__law_take (hr.mono (by decide)) rfl pass0 (pa_cons (pv 0) (pa_cons pe_int pa_nil))))
      (pss_cons (ps_if (pt_cmpR (op_eqX hr.units) (pv 5) pe_int (nomark _)) (pss_one (ps_set (i := 4) sc__law_ball.nd rfl (by first | exact Or.inl rfl | exact Or.inr rfl) (pe_ix (ix_X hu) (pe_lst (pa_cons pe_int (pa_cons pe_int (pa_cons pe_int pa_nil)))) (pe_op op_mod (pv 4) pe_int) (fun _ _ => rfl)))) pss_nil)
      (pss_cons (ps_if (pt_cmpR (op_neX hr.units) (pv 2) pe_str (nomark _)) (pss_one (ps_ret (pe_tup (pa_cons pe_str (pa_cons (pv 1) (pa_cons (pv 4) (pa_cons (pv 3) (pa_cons (pv 2) (pa_cons pe_str (pa_cons pe_str pa_nil)))))))))) pss_nil)
      (pss_one (ps_ret (pe_tup (pa_cons pe_str (pa_cons (pv 1) (pa_cons (pv 4) (pa_cons (pv 3) (pa_cons (pv 2) (pa_cons (pe_d d__law_word (hr.mono (by decide)) rfl pass0 (pa_cons (pv 0) pa_nil)) (pa_cons (pe_ix (ix_X hu) (pe_lst (pa_cons pe_str (pa_cons pe_str pa_nil))) (pe_d d__law_take (hr.mono (by decide)) rfl pass0 (pa_cons (pv 0) (pa_cons pe_int pa_nil))) (fun _ _ => rfl)) pa_nil)))))))))))))))))), ?_⟩
  refine go_start (σ := [some a0, none, none, none, none, none]) rfl ?_
  try dsimp only [cxOf, Cx.nox, Cx.wish]
  obtain ⟨p, n, rfl, hp, hn, hq⟩ := h
  walk_at "*"
  
  intro l1 hl1
  walk_at "*"
  refine go_sp2 ⟨p, _, 6, rfl, rfl, hp.same (same_new hl1), by omega, by decide, by decide, fun r1 H1 h0 h1 k1 p1 => ?_⟩
  obtain ⟨k, e1, m1⟩ := menuS (L := kinds) h0 h1
  have t1 := k1 _ _ upd_same (hp.ne hl1)
  have k1 := Kp.refl.trans ((Kp.same (same_new hl1)).trans k1)
  walk_at "*"
  refine go_xL (.of t1) e1 ?_
  walk_at "*"
  have mk := m1
  intro l2 hl2
  walk_at "*"
  refine go_sp2 ⟨p, _, 7, rfl, rfl, p1.same (same_new hl2), by omega, by decide, by decide, fun r2 H2 h0 h1 k2 p2 => ?_⟩
  obtain ⟨w, e2, m2⟩ := menuS (L := ways) h0 h1
  have t2 := k2 _ _ upd_same (p1.ne hl2)
  have k2 := k1.trans ((Kp.same (same_new hl2)).trans k2)
  walk_at "*"
  refine go_xL (.of t2) e2 ?_
  walk_at "*"
  have mw := m2
  refine go_sp2 ⟨p, _, 2, rfl, rfl, p2, by omega, by omega, by omega, fun r3 H3 h0_3 h1_3 k3 p3 => ?_⟩
  have q3 := k3
  have k3 := k2.trans k3
  walk_at "*"
  refine go_sp2 ⟨p, _, 10, rfl, rfl, p3, by omega, by omega, by omega, fun r4 H4 h0_4 h1_4 k4 p4 => ?_⟩
  have q4 := k4
  have k4 := k3.trans k4
  walk_at "*"
  refine go_sp2 ⟨p, _, 3, rfl, rfl, p4, by omega, by omega, by omega, fun r5 H5 h0_5 h1_5 k5 p5 => ?_⟩
  have q5 := k5
  have k5 := k4.trans k5
  walk_at "*"
  refine if2 (fun c => ?_) (fun c => ?_)
  · walk_at "*"
    intro l6 hl6
    walk_at "*"
    obtain ⟨m, e6, m6⟩ := menuI (L := [0, 4, 6]) (r := r4 % 3) (by omega) (by show r4 % 3 < 3; omega)
    refine go_xL (.of upd_same) e6 ?_
    have hm : 0 ≤ m ∧ m ≤ 9 := by
      have q := m6
      simp at q
      omega
    have k6 := k5.trans (Kp.same (fp := fun a => a = p) (same_new (o := HO.lst [V.int 0, V.int 4, V.int 6]) hl6))
    have p6 := p5.same (same_new (o := HO.lst [V.int 0, V.int 4, V.int 6]) hl6)
    walk_at "*"
  
    refine if2 (fun c2 => ?_) (fun c2 => ?_)
    · walk_at "*"
      intro b hb
      exact hq b k m _ w _ _ _ (k6.back (p6.is) hb) upd_same mk mw hm.1 hm.2 (k6.trans (Kp.same (same_new hb))) ((p6.same (same_new hb)).le (by omega))
    · walk_at "*"
      refine go_sp1 ⟨p, _, rfl, p6, by omega, fun z H8 hz k8 p8 => ?_⟩
      have k8 := k6.trans k8
      walk_at "*"
    
      intro l9 hl9
      walk_at "*"
      refine go_sp2 ⟨p, _, 2, rfl, rfl, p8.same (same_new hl9), by omega, by decide, by decide, fun r9 H9 h0 h1 k9 p9 => ?_⟩
      obtain ⟨e, e9, m9⟩ := menuS (L := (["strike", "other"] : List Str)) h0 h1
      have t9 := k9 _ _ upd_same (p8.ne hl9)
      have k9 := k8.trans ((Kp.same (same_new hl9)).trans k9)
      walk_at "*"
      refine go_xL (.of t9) e9 ?_
      walk_at "*"
      intro b hb
      exact hq b k m _ w _ _ _ (k9.back (p9.is) hb) upd_same mk mw hm.1 hm.2 (k9.trans (Kp.same (same_new hb))) ((p9.same (same_new hb)).le (by omega))
    
  · walk_at "*"
  
    refine if2 (fun c2 => ?_) (fun c2 => ?_)
    · walk_at "*"
      intro b hb
      exact hq b k r4 _ w _ _ _ (k5.back (p5.is) hb) upd_same mk mw h0_4 (by omega) (k5.trans (Kp.same (same_new hb))) ((p5.same (same_new hb)).le (by omega))
    · walk_at "*"
      refine go_sp1 ⟨p, _, rfl, p5, by omega, fun z H8 hz k8 p8 => ?_⟩
      have k8 := k5.trans k8
      walk_at "*"
    
      intro l9 hl9
      walk_at "*"
      refine go_sp2 ⟨p, _, 2, rfl, rfl, p8.same (same_new hl9), by omega, by decide, by decide, fun r9 H9 h0 h1 k9 p9 => ?_⟩
      obtain ⟨e, e9, m9⟩ := menuS (L := (["strike", "other"] : List Str)) h0 h1
      have t9 := k9 _ _ upd_same (p8.ne hl9)
      have k9 := k8.trans ((Kp.same (same_new hl9)).trans k9)
      walk_at "*"
      refine go_xL (.of t9) e9 ?_
      walk_at "*"
      intro b hb
      exact hq b k r4 _ w _ _ _ (k9.back (p9.is) hb) upd_same mk mw h0_4 (by omega) (k9.trans (Kp.same (same_new hb))) ((p9.same (same_new hb)).le (by omega))
    

/-- the outs made so far: balls of k n rope with a way that is a way -/
def Outs (H : Hp) (k : Str) (n : Int) (rope : Bool) (xs : List V) : Prop := ∀ x ∈ xs, ∃ (b : Addr) (w who e : Str), x = .ref b ∧ H b = some (.tup (ballL k n rope w who e)) ∧ w ≠ ""
theorem Outs.same {H H' : Hp} {k : Str} {n : Int} {rope : Bool} {xs : List V} (h : Outs H k n rope xs) (s : Same H H') : Outs H' k n rope xs := fun x m => by
  obtain ⟨b, w, who, e, h1, h2, h3⟩ := h x m
  exact ⟨b, w, who, e, h1, s _ _ h2, h3⟩
theorem Outs.kp {H H' : Hp} {k : Str} {n : Int} {rope : Bool} {xs : List V} {p : Addr} (h : Outs H k n rope xs) (s : Kp (fun a => a = p) H H') (hp : ∀ (l : List V), H p = some (.tup l) → False) : Outs H' k n rope xs := fun x m => by
  obtain ⟨b, w, who, e, h1, h2, h3⟩ := h x m
  exact ⟨b, w, who, e, h1, s _ _ h2 (fun z => hp _ (z ▸ h2)), h3⟩
theorem Outs.app {H : Hp} {k : Str} {n : Int} {rope : Bool} {xs : List V} {b : Addr} {w who e : Str} (h : Outs H k n rope xs) (hb : H b = some (.tup (ballL k n rope w who e))) (hw : w ≠ "") : Outs H k n rope (xs ++ [.ref b]) := fun x m => by
  rcases List.mem_append.mp m with m | m
  · exact h x m
  · obtain rfl := List.mem_singleton.mp m
    exact ⟨b, w, who, e, rfl, hb, hw⟩
theorem Outs.upd {H : Hp} {k : Str} {n : Int} {rope : Bool} {xs ys : List V} {l : Addr} (h : Outs H k n rope xs) (hl : H l = some (.lst ys)) {zs : List V} : Outs (upd H l (.lst zs)) k n rope xs := fun x m => by
  obtain ⟨b, w, who, e, h1, h2, h3⟩ := h x m
  exact ⟨b, w, who, e, h1, by rw [upd_ne (fun z => by rw [z, hl] at h2; cases h2)]; exact h2, h3⟩

/-! ### _law_outs -/
abbrev s__law_outs : Stmt := top 13
abbrev N__law_outs : List Str := ["_law_ball_here", "_law_pot_here", "_law_outs_here", "_law_way", "_law_end", "_law_kind", "_law_runs", "_law_rope", "_law_out"]
theorem sc__law_outs : FnScope N__law_outs ["_law_ball_here", "_law_pot_here"] (defScope s__law_outs) := ⟨rfl, rfl, rfl, by decide +kernel, rfl, by decide +kernel, by decide +kernel⟩
def pr__law_outs (K : PySem.W.Frag) : V → V → Hp → VK → XK → Prop := fun a0 a1 H Q E => ∃ (p q : Addr) (n : Int) (k : Str) (m : Int) (rope : Bool) (w who e : Str), a0 = .ref q ∧ a1 = .ref p ∧ SqT K H q (ballL k m rope w who e) ∧ Pot H p n ∧ n ≤ 7000 ∧ ∀ (l : Addr) (xs : List V) (H' : Hp), H' l = some (.lst xs) → xs.length ≤ 1000 → Outs H' k m rope xs → Kp (fun a => a = p) H H' → Q (.ref l) H' 
abbrev sp__law_outs (K : PySem.W.Frag) : Sp := Sp2 (pr__law_outs K)
theorem ok__law_outs {P : Program} {w : World} {K : PySem.W.Frag} {mg : Str → Option Value} {base : Heap} {f : Addr} {fd : FuncData} (F : FunD K "_law_outs" "_law_outs" (defArgs s__law_outs) (defBody s__law_outs) (defScope s__law_outs) [] [] f fd) (T : Txt K mg) (d__law_word : Dn P w K mg base CX0 3 "_law_word" ["_law_pot_here"] [] (sp__law_word K)) (d_ball_fault : Dn P w K mg base CX0 2 "ball_fault" ["entry"] [] (sp_ball_fault K)) : FnOk P w K mg base CX0 4 f fd ["_law_ball_here", "_law_pot_here"] (sp__law_outs K) := by
  refine F.ok sc__law_outs (fun vs H Q E h => len2 h) (fun cdv A outer s H vs Q E hr h => ?_)
  obtain ⟨a0, a1, rfl, h⟩ := h
  have hu := hu_of hr
  refine ⟨_, PSs.nox ((pss_cons (ps_par3 (i := 5) (j := 6) (l := 7) rfl sc__law_outs.nd rfl rfl rfl (by decide) (by decide) (by decide) rfl rfl rfl (pa_cons (pe_ix (ix_X hu) (pv 0) pe_int (fun _ _ => rfl)) (pa_cons (pe_ix (ix_X hu) (pv 0) pe_int (fun _ _ => rfl)) (pa_cons (pe_ix (ix_X hu) (pv 0) pe_int (fun _ _ => rfl)) pa_nil))) (by rfl))
      (pss_cons (ps_set (i := 2) sc__law_outs.nd rfl (by first | exact Or.inl rfl | exact Or.inr rfl) (pe_lst pa_nil))
      (pss_cons (ps_for PassesOwn.never rfl (pi_X (pe_tup (pa_cons pe_str (pa_cons pe_str (pa_cons pe_str (pa_cons pe_str (pa_cons pe_str pa_nil))))))) (pg_name (i := 3) sc__law_outs.nd rfl (by first | exact Or.inl rfl | exact Or.inr rfl)) (pss_one (ps_expr (pe_bm PySem.F.plainAttrs_list PySem.F.slot_list_append PySem.F.type_list_append mt_append (pv 2) (pa_cons (pe_tup (pa_cons pe_str (pa_cons (pv 5) (pa_cons (pv 6) (pa_cons (pv 7) (pa_cons (pv 3) (pa_cons pe_str (pa_cons pe_str pa_nil)))))))) pa_nil)))))
      (pss_cons (ps_for PassesOwn.never rfl (pi_X (pe_tup (pa_cons pe_str (pa_cons pe_str pa_nil)))) (pg_name (i := 4) sc__law_outs.nd rfl (by first | exact Or.inl rfl | exact Or.inr rfl)) (pss_one (ps_expr (pe_bm PySem.F.plainAttrs_list PySem.F.slot_list_append PySem.F.type_list_append mt_append (pv 2) (pa_cons (pe_tup (pa_cons pe_str (pa_cons (pv 5) (pa_cons (pv 6) (pa_cons (pv 7) (pa_cons pe_str (pa_cons (pe_d d__law_word (hr.mono (by decide)) rfl pass0 (pa_cons (pv 1) pa_nil)) (pa_cons (pv 4) pa_nil)))))))) pa_nil)))))
      (pss_one (ps_ret (pe_lc (own := [("_law_out", 8)]) rfl sc__law_outs.nd (pi_X (pv 2)) (blkOk_by (N := N__law_outs) (sc := defScope s__law_outs) (own := [("_law_out", 8)]) (by decide +kernel)) (fun _ _ _ _ _ => (pg_name (i := 8) sc__law_outs.nd rfl (by first | exact Or.inl rfl | exact Or.inr rfl))) (fun _ _ _ _ _ => pts_one (pt_cmpR (op_isK' (K := K) rfl) (pe_d d_ball_fault (hr.mono (by decide)) rfl pass0 (pa_cons (pv 8) pa_nil)) pe_non (nomark _))) (fun _ _ _ _ _ => (pv 8)))))))))), ?_⟩
  refine go_start (σ := [some a0, some a1, none, none, none, none, none, none, none]) rfl ?_
  try dsimp only [cxOf, Cx.nox, Cx.wish]
  obtain ⟨p, q, n, k, m, rope, w, who, e, rfl, rfl, hq0, hp, hn, hq⟩ := h
  walk_at "*"
  intro l hl
  walk_at "*"
  intro t ht
  have lp : l ≠ p := hp.ne hl
  refine go_iT (.of upd_same) ?_
  refine ForW.tup (xs := [.str "bowled", .str "caught", .str "before", .str "stumped", .str "hit"]) (fun i σ H' => ∃ (xs : List V) (v3 v4 v8 : Option V), xs.length = i ∧ H' l = some (.lst xs) ∧ H' t = some (.tup [.str "bowled", .str "caught", .str "before", .str "stumped", .str "hit"]) ∧ Outs H' k m rope xs ∧ Kp (fun a => a = p) H H' ∧ Pot H' p n ∧ σ = [some (.ref q), some (.ref p), some (.ref l), v3, v4, some (.str k), some (.int m), some (.bl rope), v8]) ⟨[], _, _, _, rfl, by rw [upd_ne (ne_of_none upd_same ht)]; exact upd_same, upd_same, fun x m => (by cases m), kp_new (Kp.same (same_new hl)) ht, (hp.same (same_new hl)).same (same_new ht), rfl⟩ (fun i σ H' _ ⟨_, _, _, _, _, _, g, _⟩ => .of g) ?_ ?_
  · rintro i x σ H2 hi ⟨xs, v3, v4, v8, lx, e1, e2, os, kp, pt, rfl⟩
    obtain ⟨wy, rfl, hw⟩ : ∃ wy, x = .str wy ∧ wy ≠ "" := by
      match i, hi with
      | 0, hi => exact ⟨_, (Option.some.inj hi).symm, by decide⟩
      | 1, hi => exact ⟨_, (Option.some.inj hi).symm, by decide⟩
      | 2, hi => exact ⟨_, (Option.some.inj hi).symm, by decide⟩
      | 3, hi => exact ⟨_, (Option.some.inj hi).symm, by decide⟩
      | 4, hi => exact ⟨_, (Option.some.inj hi).symm, by decide⟩
    have li : i < 5 := (List.getElem?_eq_some_iff.mp hi).1
    walk_at "*"
    intro b hb
    walk_at "*"
    have bl : l ≠ b := ne_of_none e1 hb
    have tl : t ≠ l := fun z => by rw [z, e1] at e2; cases e2
    refine ⟨_, _, _, _, by rw [List.length_append, lx]; rfl, upd_same, by rw [upd_ne tl, upd_ne (ne_of_none e2 hb)]; exact e2, Outs.upd (Outs.app (os.same (same_new hb)) upd_same hw) (by rw [upd_ne bl]; exact e1), kp_mut (kp_new kp hb) hl, ((pt.same (same_new hb)).kp lp.symm Kp.upd), rfl⟩
  · rintro σ H2 ⟨xs, v3, v4, v8, lx, e1, e2, os, kp, pt, rfl⟩
    walk_at "*"
    intro t2 ht2
    refine go_iT (.of upd_same) ?_
    refine ForW.tup (xs := [.str "strike", .str "other"]) (fun i σ H' => ∃ (xs : List V) (v3 v4 v8 : Option V), xs.length = 5 + i ∧ H' l = some (.lst xs) ∧ H' t2 = some (.tup [.str "strike", .str "other"]) ∧ Outs H' k m rope xs ∧ Kp (fun a => a = p) H H' ∧ Pot H' p (n + 9 * i) ∧ σ = [some (.ref q), some (.ref p), some (.ref l), v3, v4, some (.str k), some (.int m), some (.bl rope), v8]) ⟨xs, _, _, _, lx, by rw [upd_ne (ne_of_none e1 ht2)]; exact e1, upd_same, os.same (same_new ht2), kp_new kp ht2, ((pt.same (same_new ht2)).le (by omega)), rfl⟩ (fun i σ H' _ ⟨_, _, _, _, _, _, g, _⟩ => .of g) ?_ ?_
    · rintro i x σ H3 hi ⟨xs, v3, v4, v8, lx, e1, e2, os, kp, pt, rfl⟩
      obtain ⟨ed, rfl⟩ : ∃ ed, x = .str ed := by
        match i, hi with
        | 0, hi => exact ⟨_, (Option.some.inj hi).symm⟩
        | 1, hi => exact ⟨_, (Option.some.inj hi).symm⟩
      have li : i < 2 := (List.getElem?_eq_some_iff.mp hi).1
      have tl : t2 ≠ l := fun z => by rw [z, e1] at e2; cases e2
      walk_at "*"
      refine go_sp1 ⟨p, _, rfl, pt, by omega, fun z H4 hz k4 p4 => ?_⟩
      have e1 := k4 _ _ e1 lp
      have e2 := k4 _ _ e2 (fun z => by obtain ⟨_, _, _, g, _⟩ := pt; rw [z, g] at e2; cases e2)
      walk_at "*"
      intro b hb
      walk_at "*"
      have bl : l ≠ b := ne_of_none e1 hb
      refine ⟨_, _, _, _, by rw [List.length_append, lx]; rfl, upd_same, by rw [upd_ne tl, upd_ne (ne_of_none e2 hb)]; exact e2, Outs.upd (Outs.app ((os.kp k4 (fun l g => by obtain ⟨_, _, _, g', _⟩ := pt; rw [g] at g'; cases g')).same (same_new hb)) upd_same (by decide)) (by rw [upd_ne bl]; exact e1), kp_mut (kp_new (kp.trans k4) hb) hl, (((p4.same (same_new hb)).kp lp.symm Kp.upd).le (by omega)), rfl⟩
    · rintro σ H3 ⟨xs, v3, v4, v8, lx, e1, e2, os, kp, pt, rfl⟩
      have lx : xs.length = 7 := lx
      walk_at "*"
      refine go_iL (.of e1) ?_
      refine LcW.list (xs := xs) (fun D i ys H' => Outs H' k m rope ys) (by omega) (.of e1) (fun D hD x m => (by cases m)) ?_ ?_
      · intro D i x ys H' hD hi hl r s e yes no hy hn
        obtain ⟨b, w', who', e', rfl, hb, hw⟩ := os x (List.mem_of_getElem? hi)
        refine go_name rfl ⟨rfl, ?_⟩
        walk_at "*"
        refine go_sp1 ⟨b, k, m, rope, w', who', e', rfl, .of (s _ _ hb), fun H5 s5 => ?_⟩
        walk_at "*"
        refine if2 (fun c => ?_) (fun c => ?_)
        · walk_at "*"
          exact hy _ _ s5 (Outs.upd (Outs.app (r.same s5) (s5 _ _ (s _ _ hb)) hw) (s5 _ _ e))
        · exact hn _ s5 (r.same s5)
      · intro D ys H' hD s e ly r
        walk_at "*"
        exact hq _ _ _ e (by omega) r (kp.trans (Kp.same s))
/-! ### _law_more -/
abbrev s__law_more : Stmt := top 14
abbrev N__law_more : List Str := ["_law_rules_here"]
theorem sc__law_more : FnScope N__law_more ["_law_rules_here"] (defScope s__law_more) := ⟨rfl, rfl, rfl, by decide +kernel, rfl, by decide +kernel, by decide +kernel⟩
def pr__law_more (K : PySem.W.Frag) : V → Hp → VK → XK → Prop := fun a0 H Q E => ∃ (p : Addr) (r : Rules), a0 = .ref p ∧ SqT K H p (rulesL r) ∧ ∀ (b : Addr) (H' : Hp), Same H H' → H' b = some (.tup (rulesL { r with wide := r.wide + 1, noball := r.noball + 1 })) → Q (.ref b) H' 
abbrev sp__law_more (K : PySem.W.Frag) : Sp := Sp1 (pr__law_more K)
theorem ok__law_more {P : Program} {w : World} {K : PySem.W.Frag} {mg : Str → Option Value} {base : Heap} {f : Addr} {fd : FuncData} (F : FunD K "_law_more" "_law_more" (defArgs s__law_more) (defBody s__law_more) (defScope s__law_more) [] [] f fd) (T : Txt K mg)  : FnOk P w K mg base CX0 1 f fd ["_law_rules_here"] (sp__law_more K) := by
  refine F.ok sc__law_more (fun vs H Q E h => len1 h) (fun cdv A outer s H vs Q E hr h => ?_)
  obtain ⟨a0, rfl, h⟩ := h
  have hu := hu_of hr
  refine ⟨_, PSs.nox ((pss_one (ps_ret (pe_op op_addX (pe_op op_addX (pe_slice sl_X (pv 0) po_none (po_some pe_int)) (pe_tup (pa_cons (pe_op op_addX (pe_ix (ix_X hu) (pv 0) pe_int (fun _ _ => rfl)) pe_int) (pa_cons (pe_op op_addX (pe_ix (ix_X hu) (pv 0) pe_int (fun _ _ => rfl)) pe_int) pa_nil)))) (pe_slice sl_X (pv 0) (po_some pe_int) po_none))))), ?_⟩
  refine go_start (σ := [some a0]) rfl ?_
  try dsimp only [cxOf, Cx.nox, Cx.wish]
  obtain ⟨p, r, rfl, hp, hq⟩ := h
  walk_at "*"
  intro b1 h1
  walk_at "**"
  refine go_addT (.of (ge2 upd_same (by walk_at "same"))) (.of upd_same) (szl (Nat.le_of_ble_eq_true rfl)) ?_
  intro b3 h3
  walk_at "*"
  intro b4 h4
  walk_at "*"
  refine go_addT (.of (ge2 upd_same (by walk_at "same"))) (.of upd_same) (szl (Nat.le_of_ble_eq_true rfl)) ?_
  intro b5 h5
  exact hq _ _ (by walk_at "same") upd_same

theorem sums_ok {r : Rules} {k : Str} {n : Int} {rope : Bool} {w : Str} : (sumsL r k n rope w).all okV = true := rfl
theorem sums_rules {r s : Rules} {k : Str} {n : Int} {rope : Bool} {w : Str} : sumsL { s with wide := r.wide, noball := r.noball } k n rope w = sumsL r k n rope w := rfl
theorem kind_cases {k : Str} (h : k ∈ kinds) : k = "bat" ∨ k = "bye" ∨ k = "leg" ∨ k = "wide" ∨ k = "no" ∨ k = "nobye" := by simpa [kinds] using h
def gsum (g : Int × Int × Int) : Int := g.1 + g.2.1
theorem more_ok {r : Rules} {k : Str} {n : Int} (hk : k ∈ kinds) : gsum (givenI (r.wide + 1) (r.noball + 1) k n) - gsum (givenI r.wide r.noball k n) = b2i (inV (.str k) [.str "wide", .str "no", .str "nobye"]) := by
  rcases kind_cases hk with rfl | rfl | rfl | rfl | rfl | rfl
  · show (n + 0) - (n + 0) = 0; omega
  · show (0 + n) - (0 + n) = 0; omega
  · show (0 + n) - (0 + n) = 0; omega
  · show (0 + (r.wide + 1 + n)) - (0 + (r.wide + n)) = 1; omega
  · show (n + (r.noball + 1)) - (n + r.noball) = 1; omega
  · show (0 + (r.noball + 1 + n)) - (0 + (r.noball + n)) = 1; omega

/-! ### _law_one -/
abbrev s__law_one : Stmt := top 15
abbrev N__law_one : List Str := ["_law_cell", "_law_pot_here", "_law_ball_here", "_law_rules_here", "_law_other", "_law_sums", "_law_out"]
theorem sc__law_one : FnScope N__law_one ["_law_cell"] (defScope s__law_one) := ⟨rfl, rfl, rfl, by decide +kernel, rfl, by decide +kernel, by decide +kernel⟩
def pr__law_one (K : PySem.W.Frag) : V → Hp → VK → XK → Prop := fun a0 H Q E => ∃ z : Int, a0 = .int z ∧ ∀ H', Same H H' → Q (.bl true) H' 
abbrev sp__law_one (K : PySem.W.Frag) : Sp := Sp1 (pr__law_one K)
theorem ok__law_one {P : Program} {w : World} {K : PySem.W.Frag} {mg : Str → Option Value} {base : Heap} {f : Addr} {fd : FuncData} (F : FunD K "_law_one" "_law_one" (defArgs s__law_one) (defBody s__law_one) (defScope s__law_one) [] [] f fd) (T : Txt K mg) (d__law_ball : Dn P w K mg base CX0 4 "_law_ball" ["_law_pot_here"] [] (sp__law_ball K)) (d__law_more : Dn P w K mg base CX0 1 "_law_more" ["_law_rules_here"] [] (sp__law_more K)) (d__law_outs : Dn P w K mg base CX0 4 "_law_outs" ["_law_ball_here", "_law_pot_here"] [] (sp__law_outs K)) (d__law_pot : Dn P w K mg base CX0 1 "_law_pot" ["_law_cell"] [] (sp__law_pot K)) (d__law_rules : Dn P w K mg base CX0 3 "_law_rules" ["_law_pot_here"] [] (sp__law_rules K)) (d_ball_fault : Dn P w K mg base CX0 2 "ball_fault" ["entry"] [] (sp_ball_fault K)) (d_ball_sums : Dn P w K mg base CX0 2 "ball_sums" ["rules", "entry"] [] (sp_ball_sums K)) : FnOk P w K mg base CX0 5 f fd ["_law_cell"] (sp__law_one K) := by
  refine F.ok sc__law_one (fun vs H Q E h => len1 h) (fun cdv A outer s H vs Q E hr h => ?_)
  obtain ⟨a0, rfl, h⟩ := h
  have hu := hu_of hr
  refine ⟨_, PSs.nox ((pss_cons (ps_set (i := 1) sc__law_one.nd rfl (by first | exact Or.inl rfl | exact Or.inr rfl) (pe_d d__law_pot (hr.mono (by decide)) rfl pass0 (pa_cons (pv 0) pa_nil)))
      (pss_cons (ps_set (i := 2) sc__law_one.nd rfl (by first | exact Or.inl rfl | exact Or.inr rfl) (pe_op op_addX (pe_slice sl_X (pe_d d__law_ball (hr.mono (by decide)) rfl pass0 (pa_cons (pv 1) pa_nil)) po_none (po_some pe_int)) (pe_tup (pa_cons pe_str (pa_cons pe_str (pa_cons pe_str pa_nil))))))
      (pss_cons (ps_if (pt_cmpR op_isNotX (pe_d d_ball_fault (hr.mono (by decide)) rfl pass0 (pa_cons (pv 2) pa_nil)) pe_non (nomark _)) (pss_one (ps_ret pe_bl)) pss_nil)
      (pss_cons (ps_set (i := 3) sc__law_one.nd rfl (by first | exact Or.inl rfl | exact Or.inr rfl) (pe_d d__law_rules (hr.mono (by decide)) rfl pass0 (pa_cons (pv 1) pa_nil)))
      (pss_cons (ps_set (i := 4) sc__law_one.nd rfl (by first | exact Or.inl rfl | exact Or.inr rfl) (pe_d d__law_rules (hr.mono (by decide)) rfl pass0 (pa_cons (pv 1) pa_nil)))
      (pss_cons (ps_set (i := 4) sc__law_one.nd rfl (by first | exact Or.inl rfl | exact Or.inr rfl) (pe_op op_addX (pe_op op_addX (pe_slice sl_X (pv 4) po_none (po_some pe_int)) (pe_slice sl_X (pv 3) (po_some pe_int) (po_some pe_int))) (pe_slice sl_X (pv 4) (po_some pe_int) po_none)))
      (pss_cons (ps_set (i := 5) sc__law_one.nd rfl (by first | exact Or.inl rfl | exact Or.inr rfl) (pe_d d_ball_sums (hr.mono (by decide)) rfl pass0 (pa_cons (pv 3) (pa_cons (pv 2) pa_nil))))
      (pss_cons (ps_if (PW.pt (pw_or (pt_cmpR (op_neX hr.units) (pe_d d_ball_sums (hr.mono (by decide)) rfl pass0 (pa_cons (pv 4) (pa_cons (pv 2) pa_nil))) (pv 5) (nomark _)) (pw_or1 (pt_cmpR op_isNotX (pe_ix (ix_X hu) (pv 5) pe_int (fun _ _ => rfl)) pe_bl (nomark _))))) (pss_one (ps_ret pe_bl)) pss_nil)
      (pss_cons (ps_for PassesOwn.never rfl (pi_X (pe_d d__law_outs (hr.mono (by decide)) rfl pass0 (pa_cons (pv 2) (pa_cons (pv 1) pa_nil)))) (pg_name (i := 6) sc__law_one.nd rfl (by first | exact Or.inl rfl | exact Or.inr rfl)) (pss_one (ps_if (pt_cmpR (op_neX hr.units) (pe_d d_ball_sums (hr.mono (by decide)) rfl pass0 (pa_cons (pv 3) (pa_cons (pv 6) pa_nil))) (pe_op op_addX (pe_slice sl_X (pv 5) po_none (po_some pe_int)) (pe_tup (pa_cons (pe_cmpR (op_neX hr.units) (pe_ix (ix_X hu) (pv 6) pe_int (fun _ _ => rfl)) pe_str (nomark _)) pa_nil))) (nomark _)) (pss_one (ps_ret pe_bl)) pss_nil)))
      (pss_cons (ps_if (PW.pt (pw_or (pt_cmpR (op_eqX hr.units) (pe_ix (ix_X hu) (pv 3) pe_int (fun _ _ => rfl)) pe_int (nomark _)) (pw_or1 (pt_cmpR (op_eqX hr.units) (pe_ix (ix_X hu) (pv 3) pe_int (fun _ _ => rfl)) pe_int (nomark _))))) (pss_one (ps_ret pe_bl)) pss_nil)
      (pss_one (ps_ret (pe_cmpR (op_eqX hr.units) (pe_op op_sub (pe_ix (ix_X hu) (pe_d d_ball_sums (hr.mono (by decide)) rfl pass0 (pa_cons (pe_d d__law_more (hr.mono (by decide)) rfl pass0 (pa_cons (pv 3) pa_nil)) (pa_cons (pv 2) pa_nil))) pe_int (fun _ _ => rfl)) (pe_ix (ix_X hu) (pv 5) pe_int (fun _ _ => rfl))) (pe_callTy call_intX (by rfl) T.b_int L2.A.boot_int (pa_cons (pe_cmpR (op_inX hu) (pe_ix (ix_X hu) (pv 2) pe_int (fun _ _ => rfl)) (pe_tup (pa_cons pe_str (pa_cons pe_str (pa_cons pe_str pa_nil)))) (by rfl)) pa_nil)) (nomark _))))))))))))))), ?_⟩
  refine go_start (σ := [some a0, none, none, none, none, none, none]) rfl ?_
  try dsimp only [cxOf, Cx.nox, Cx.wish]
  obtain ⟨z, rfl, hq⟩ := h
  walk_at "*"
  refine go_sp1 ⟨_, rfl, fun p H1 hp s1 p1 => ?_⟩
  walk_at "*"
  refine go_sp1 ⟨p, 0, rfl, p1, by omega, fun b k m rope w0 who0 e0 H2 hb eb hk hw h0 h1 k2 p2 => ?_⟩
  have s2 : Same H H2 := same_kp s1 k2 hp
  walk_at "**"
  refine go_addT (.of (ge2 upd_same (by walk_at "same"))) (.of upd_same) (szl (Nat.le_of_ble_eq_true rfl)) ?_
  refine go_newS (H0 := H2) (by walk_at "same") fun b2 H3 n3 s3 e3 => ?_
  have p3 := p2.same s3
  walk_at "*"
  refine go_sp1 ⟨b2, k, m, rope, "", "", "", rfl, .of e3, fun H4 s4 => ?_⟩
  have p4 := p3.same s4
  walk_at "*"
  refine if2 (fun c => ?_) (fun c => ?_)
  · walk_at "*"
    exact hq _ ((s2.trans s3).trans s4)
  walk_at "*"
  refine go_sp1 ⟨p, _, rfl, p4, by omega, fun b5 r H5 n5 e5 ok5 k5 p5 => ?_⟩
  walk_at "*"
  refine go_sp1 ⟨p, _, rfl, p5, by omega, fun b6 r' H6 n6 e6 ok6 k6 p6 => ?_⟩
  have np2 : b2 ≠ p := fun z => by obtain ⟨_, _, _, g, _⟩ := p4; have q := s4 _ _ e3; rw [z, g] at q; cases q
  have np5 : b5 ≠ p := fun z => by obtain ⟨_, _, _, g, _⟩ := p5; rw [z] at e5; rw [e5] at g; cases g
  have e5 := k6 _ _ e5 np5
  have e3 : H6 b2 = some (.tup (ballL k m rope "" "" "")) := k6 _ _ (k5 _ _ (s4 _ _ e3) np2) np2
  have s6 : Same H H6 := same_kp (same_kp ((s2.trans s3).trans s4) k5 hp) k6 hp
  walk_at "**"
  refine go_addT (.of (ge2 upd_same (by walk_at "same"))) (.of upd_same) (szl (Nat.le_of_ble_eq_true rfl)) ?_
  walk_at "**"
  refine go_addT (.of (ge2 upd_same (by walk_at "same"))) (.of upd_same) (szl (Nat.le_of_ble_eq_true rfl)) ?_
  refine go_newS (H0 := H6) (by walk_at "same") fun b11 H7 n7 s7 e7 => ?_
  have e7 : H7 b11 = some (.tup (rulesL { r' with wide := r.wide, noball := r.noball })) := e7
  walk_at "*"
  refine go_sp2 ⟨b5, b2, r, k, m, rope, "", "", "", rfl, rfl, .of (s7 _ _ e5), .of (s7 _ _ e3), fun t H8 n8 s8 e8 => ?_⟩
  walk_at "*"
  refine go_sp2 ⟨b11, b2, _, k, m, rope, "", "", "", rfl, rfl, .of (s8 _ _ e7), .of (s8 _ _ (s7 _ _ e3)), fun t2 H9 n9 s9 e9 => ?_⟩
  rw [sums_rules] at e9
  have e8 := s9 _ _ e8
  walk_at "*"
  refine go_neT (.of e9) (.of e8) sums_ok sums_ok ?_
  rw [eqVs_refl sums_ok]
  walk_at "*"
  refine ite_F (by decide) ?_
  walk_at "*"
  have s9' : Same H6 H9 := (s7.trans s8).trans s9
  have p9 := p6.same s9'
  refine go_sp2 ⟨p, b2, _, k, m, rope, "", "", "", rfl, rfl, .of (s9' _ _ e3), p9, by omega, fun l xs H10 e10 lx os k10 => ?_⟩
  have nt : t ≠ p := fun z => by obtain ⟨_, _, _, g, _⟩ := p9; rw [z] at e8; rw [e8] at g; cases g
  have e8 := k10 _ _ e8 nt
  have e5 := k10 _ _ (s9' _ _ e5) np5
  have e3 := k10 _ _ (s9' _ _ e3) np2
  have s10 : Same H H10 := same_kp (s6.trans s9') k10 hp
  walk_at "*"
  refine go_iL (.of e10) ?_
  refine ForW.list (xs := xs) (fun i σ H' => Same H10 H' ∧ ∃ v, σ = [some (.int z), some (.ref p), some (.ref b2), some (.ref b5), some (.ref b11), some (.ref t), v]) ⟨.refl _, _, rfl⟩ (fun i σ H' _ ⟨s, _⟩ => .of (s _ _ e10)) ?_ ?_
  · rintro i x σ H11 hi ⟨s11, v, rfl⟩
    obtain ⟨b', w', who', e', rfl, hb', hw'⟩ := os x (List.mem_of_getElem? hi)
    have hb' := s11 _ _ hb'
    walk_at "*"
    refine go_sp2 ⟨b5, b', r, k, m, rope, w', who', e', rfl, rfl, .of (s11 _ _ e5), .of hb', fun t3 H12 n12 s12 e12 => ?_⟩
    have e8 := s12 _ _ (s11 _ _ e8)
    have hb' := s12 _ _ hb'
    walk_at "**"
    refine go_addT (.of (ge2 upd_same (by walk_at "same"))) (.of upd_same) (szl (Nat.le_of_ble_eq_true rfl)) ?_
    refine go_newS (H0 := H12) (by walk_at "same") fun t6 H13 n13 s13 e13 => ?_
    refine go_neT (ys := sumsL r k m rope w') (.of (s13 _ _ e12)) (.of (e13.trans ?_)) sums_ok sums_ok ?_
    · have q : eS w' "" = false := by simp [hw']
      show some (HO.tup [_, _, _, _, _, _, _, .bl (!eS w' "run")]) = some (HO.tup [_, _, _, _, _, _, _, .bl (!eS w' "" && !eS w' "run")])
      rw [q]
      rfl
    rw [eqVs_refl sums_ok]
    walk_at "*"
    exact ⟨(s11.trans s12).trans s13, _, rfl⟩
  · rintro σ H11 ⟨s11, v, rfl⟩
    have e5 := s11 _ _ e5
    have e3 := s11 _ _ e3
    have e8 := s11 _ _ e8
    walk_at "*"
    refine if2 (fun c => ?_) (fun c => ?_)
    · walk_at "*"
      exact hq _ (s10.trans s11)
    walk_at "*"
    refine go_sp1 ⟨b5, r, rfl, .of e5, fun b14 H14 s14 e14 => ?_⟩
    walk_at "*"
    refine go_sp2 ⟨b14, b2, _, k, m, rope, "", "", "", rfl, rfl, .of e14, .of (s14 _ _ e3), fun t15 H15 n15 s15 e15 => ?_⟩
    have e3 := s15 _ _ (s14 _ _ e3)
    have e8 := s15 _ _ (s14 _ _ e8)
    walk_at "*"
    refine go_newS (H0 := H15) (.refl _) fun b16 H16 n16 s16 e16 => ?_
    walk_at "*"
    refine go_inT (.of e16) rfl rfl ?_
    walk_at "*"
    exact bl_ok (decide_eq_true (congrArg V.int (more_ok hk))) (hq _ ((((s10.trans s11).trans s14).trans s15).trans s16))
/-! ### law -/
abbrev s_law : Stmt := top 16
abbrev N_law : List Str := ["_law_script", "_law_cells", "_law_cell"]
theorem sc_law : FnScope N_law ["_law_script"] (defScope s_law) := ⟨rfl, rfl, rfl, by decide +kernel, rfl, by decide +kernel, by decide +kernel⟩
def pr_law (K : PySem.W.Frag) : V → Hp → VK → XK → Prop := fun a0 H Q E => ∃ (a : Addr) (ns : List Int), a0 = .ref a ∧ SqL K H a (ns.map V.int) ∧ ns.length ≤ 63 ∧ ∀ H', Q (.bl true) H' 
abbrev sp_law (K : PySem.W.Frag) : Sp := Sp1 (pr_law K)
theorem ok_law {P : Program} {w : World} {K : PySem.W.Frag} {mg : Str → Option Value} {base : Heap} {f : Addr} {fd : FuncData} (F : FunD K "law" "law" (defArgs s_law) (defBody s_law) (defScope s_law) [] [] f fd) (T : Txt K mg) (d__law_one : Dn P w K mg base CX0 5 "_law_one" ["_law_cell"] [] (sp__law_one K)) : FnOk P w K mg base CX0 6 f fd ["_law_script"] (sp_law K) := by
  refine F.ok sc_law (fun vs H Q E h => len1 h) (fun cdv A outer s H vs Q E hr h => ?_)
  obtain ⟨a0, rfl, h⟩ := h
  have hu := hu_of hr
  refine ⟨_, PSs.nox ((pss_cons (ps_set (i := 1) sc_law.nd rfl (by first | exact Or.inl rfl | exact Or.inr rfl) (pe_callTy call_listO (by rfl) T.b_list L2.A.boot_list (pa_cons (pv 0) pa_nil)))
      (pss_cut (ps_if (pt_cmpR (op_eqX hr.units) (pe_callB call_lenX (by rfl) T.b_len L2.A.boot_len (pa_cons (pv 1) pa_nil)) pe_int (nomark _)) (pss_one (ps_set (i := 1) sc_law.nd rfl (by first | exact Or.inl rfl | exact Or.inr rfl) (pe_lst (pa_cons pe_int pa_nil)))) pss_nil)
      (pss_one (ps_ret (pe_callB (cr_all rfl) (by rfl) T.b_all L2.A.boot_all (pa_cons (pe_lc (own := [("_law_cell", 2)]) rfl sc_law.nd (pi_X (pv 1)) (blkOk_by (N := N_law) (sc := defScope s_law) (own := [("_law_cell", 2)]) (by decide +kernel)) (fun _ _ _ _ _ => (pg_name (i := 2) sc_law.nd rfl (by first | exact Or.inl rfl | exact Or.inr rfl))) (fun _ _ _ _ _ => pts_nil) (fun _ _ _ _ _ => (pe_d d__law_one (hr.mono (by decide)) rfl pass0 (pa_cons (pv 2) pa_nil)))) pa_nil))))))), ?_⟩
  refine go_start (σ := [some a0, none, none]) rfl ?_
  try dsimp only [cxOf, Cx.nox, Cx.wish]
  obtain ⟨a, ns, rfl, hS, hn, hq⟩ := h
  walk_at "*"
  refine go_listL hS fun l hl => ?_
  walk_at "*"
  refine go_cut (fun σ' H' => ∃ (l : Addr) (ns : List Int), σ' = [some (.ref a), some (.ref l), none] ∧ SqL K H' l (ns.map V.int) ∧ ns.length ≤ 63) ?_ ?_
  · walk_at "*"
    refine if2 (fun c => ?_) (fun c => ?_)
    · walk_at "*"
      intro p hp
      walk_at "*"
      exact ⟨p, [0], rfl, .of upd_same, by decide⟩
    · walk_at "*"
      exact ⟨l, ns, rfl, .of upd_same, hn⟩
  rintro σ' H1 ⟨l, ns, rfl, hl, hn⟩
  walk_at "*"
  refine go_iL hl ?_
  refine LcW.listV (xs := ns.map V.int) (fun _ => V.bl true) (by rw [List.length_map]; omega) hl (fun i x H' hi s Q' q => ?_) gname_mono fun D H' hD s e => ?_
  · obtain ⟨z, rfl, _⟩ := int_at hi
    refine ⟨rfl, ?_⟩
    walk_at "*"
    exact go_sp1 ⟨_, rfl, q⟩
  · walk_at "*"
    rw [range_map_const, ← List.map_replicate] at e
    exact go_all (.of e) (bl_ok all_true (hq _))
/-! ### the head -/
def D_rope_stands : He.DefD := ⟨("rope_stands", none), "rope_stands", "rope_stands", defArgs s_rope_stands, defBody s_rope_stands, defScope s_rope_stands, [], []⟩
def D_way_stands : He.DefD := ⟨("way_stands", none), "way_stands", "way_stands", defArgs s_way_stands, defBody s_way_stands, defScope s_way_stands, [], []⟩
def D_ball_fault : He.DefD := ⟨("ball_fault", none), "ball_fault", "ball_fault", defArgs s_ball_fault, defBody s_ball_fault, defScope s_ball_fault, [], []⟩
def D_given_by : He.DefD := ⟨("given_by", none), "given_by", "given_by", defArgs s_given_by, defBody s_given_by, defScope s_given_by, [], []⟩
def D_ball_sums : He.DefD := ⟨("ball_sums", none), "ball_sums", "ball_sums", defArgs s_ball_sums, defBody s_ball_sums, defScope s_ball_sums, [], []⟩
def D__law_mixed : He.DefD := ⟨("_law_mixed", none), "_law_mixed", "_law_mixed", defArgs s__law_mixed, defBody s__law_mixed, defScope s__law_mixed, [], []⟩
def D__law_take : He.DefD := ⟨("_law_take", none), "_law_take", "_law_take", defArgs s__law_take, defBody s__law_take, defScope s__law_take, [], []⟩
def D__law_pot : He.DefD := ⟨("_law_pot", none), "_law_pot", "_law_pot", defArgs s__law_pot, defBody s__law_pot, defScope s__law_pot, [], []⟩
def D__law_rules : He.DefD := ⟨("_law_rules", none), "_law_rules", "_law_rules", defArgs s__law_rules, defBody s__law_rules, defScope s__law_rules, [], []⟩
def D__law_word : He.DefD := ⟨("_law_word", none), "_law_word", "_law_word", defArgs s__law_word, defBody s__law_word, defScope s__law_word, [], []⟩
def D__law_ball : He.DefD := ⟨("_law_ball", none), "_law_ball", "_law_ball", defArgs s__law_ball, defBody s__law_ball, defScope s__law_ball, [], []⟩
def D__law_outs : He.DefD := ⟨("_law_outs", none), "_law_outs", "_law_outs", defArgs s__law_outs, defBody s__law_outs, defScope s__law_outs, [], []⟩
def D__law_more : He.DefD := ⟨("_law_more", none), "_law_more", "_law_more", defArgs s__law_more, defBody s__law_more, defScope s__law_more, [], []⟩
def D__law_one : He.DefD := ⟨("_law_one", none), "_law_one", "_law_one", defArgs s__law_one, defBody s__law_one, defScope s__law_one, [], []⟩
def D_law : He.DefD := ⟨("law", none), "law", "law", defArgs s_law, defBody s_law, defScope s_law, [], []⟩
def fn : List He.DefD := [D_rope_stands, D_way_stands, D_ball_fault, D_given_by, D_ball_sums, D__law_mixed, D__law_take, D__law_pot, D__law_rules, D__law_word, D__law_ball, D__law_outs, D__law_more, D__law_one, D_law]
def fa : List He.Fa := [.glo "rope_stands", .glo "way_stands", .glo "ball_fault", .glo "given_by", .glo "ball_sums", .glo "_law_mixed", .glo "_law_take", .glo "_law_pot", .glo "_law_rules", .glo "_law_word", .glo "_law_ball", .glo "_law_outs", .glo "_law_more", .glo "_law_one", .glo "law", .free "all", .free "int", .free "len", .free "list", .free "range", .free "tuple"]
abbrev R : PySem.W.OpenRow := PySem.W.OpenLaw.row PySem.Challenge.rw_inningsbook_k12_what_sums_hang_on
abbrev hk : PySem.W.Hook := He.hookD 4 fa fn
def ob (s : PySem.W.SharedT) : He.AlD := He.obsDG 4 fa fn (HandSHeadRun.getT s)
theorem ob_eq (s : PySem.W.SharedT) : ob s = hk.obs s.abs := He.obsDG_eq (HandSHeadRun.getT_eq s)
abbrev loose : List Str := (["rope_stands", "way_stands", "ball_fault", "given_by", "ball_sums", "_law_mixed", "_law_take", "_law_pot", "_law_word", "_law_ball", "_law_rules", "_law_outs", "_law_more", "_law_one"] : List Str)
theorem run (w : World) : HandSHeadRun.RunEq R (PySem.W.view R.prog [16]) hk ob 3000 loose w := by
  intro os
  kernel_rfl
theorem facts {P : Program} {w : World} {K : PySem.W.Frag} {h : Heap} {mg : Str → Option Value} {f : Addr} (X : K.In h) (G : h.Ns mainGlobals mg) (hfa : mg ("law" : Str) = some (.ref f)) (c : He.SaysD fa fn K) :
    ∃ fd : FuncData, (∀ (s : Shared) (v : Value), BindsTo s fd ⟨[v], []⟩ [("_law_script", v)]) ∧ ∀ base : Heap, K.In base → base.Ns mainGlobals mg → FnOk P w K mg base CX0 6 f fd ["_law_script"] (sp_law K) := by
  have T : Txt K mg := ⟨He.free_ok X G (c.fact 15 (f := .free "all") rfl), He.free_ok X G (c.fact 16 (f := .free "int") rfl), He.free_ok X G (c.fact 17 (f := .free "len") rfl), He.free_ok X G (c.fact 18 (f := .free "list") rfl), He.free_ok X G (c.fact 19 (f := .free "range") rfl), He.free_ok X G (c.fact 20 (f := .free "tuple") rfl)⟩
  obtain ⟨fd_rope_stands, F_rope_stands⟩ := c.def_ 0 (d := D_rope_stands) rfl
  obtain ⟨fd_way_stands, F_way_stands⟩ := c.def_ 1 (d := D_way_stands) rfl
  obtain ⟨fd_ball_fault, F_ball_fault⟩ := c.def_ 2 (d := D_ball_fault) rfl
  obtain ⟨fd_given_by, F_given_by⟩ := c.def_ 3 (d := D_given_by) rfl
  obtain ⟨fd_ball_sums, F_ball_sums⟩ := c.def_ 4 (d := D_ball_sums) rfl
  obtain ⟨fd__law_mixed, F__law_mixed⟩ := c.def_ 5 (d := D__law_mixed) rfl
  obtain ⟨fd__law_take, F__law_take⟩ := c.def_ 6 (d := D__law_take) rfl
  obtain ⟨fd__law_pot, F__law_pot⟩ := c.def_ 7 (d := D__law_pot) rfl
  obtain ⟨fd__law_rules, F__law_rules⟩ := c.def_ 8 (d := D__law_rules) rfl
  obtain ⟨fd__law_word, F__law_word⟩ := c.def_ 9 (d := D__law_word) rfl
  obtain ⟨fd__law_ball, F__law_ball⟩ := c.def_ 10 (d := D__law_ball) rfl
  obtain ⟨fd__law_outs, F__law_outs⟩ := c.def_ 11 (d := D__law_outs) rfl
  obtain ⟨fd__law_more, F__law_more⟩ := c.def_ 12 (d := D__law_more) rfl
  obtain ⟨fd__law_one, F__law_one⟩ := c.def_ 13 (d := D__law_one) rfl
  obtain ⟨fd_law, F_law⟩ := c.def_ 14 (d := D_law) rfl
  have e := hfa.symm.trans (He.glo_ok X G (c.fact 14 (f := .glo "law") rfl))
  cases e
  have b := FunD.bindsA (ps := ["_law_script"]) F_law fun _ _ _ _ _ _ us hl => match us, hl with | [_], _ => rfl
  refine ⟨fd_law, fun s v => b s [v] rfl, fun base hb hn => ?_⟩
  have d_rope_stands : Dn P w K mg base CX0 1 "rope_stands" ["kind", "runs"] [] (sp_rope_stands K) := ⟨⟨_, _, [], ok_rope_stands F_rope_stands T , He.glo_ok X G (c.fact 0 (f := .glo "rope_stands") rfl), F_rope_stands.kp, FunD.bindsN F_rope_stands fun _ _ _ _ _ _ us hl => match us, hl with | [_, _], _ => rfl, .nil⟩⟩
  have d_way_stands : Dn P w K mg base CX0 1 "way_stands" ["kind", "runs", "rope", "way"] [] (sp_way_stands K) := ⟨⟨_, _, [], ok_way_stands F_way_stands T , He.glo_ok X G (c.fact 1 (f := .glo "way_stands") rfl), F_way_stands.kp, FunD.bindsN F_way_stands fun _ _ _ _ _ _ us hl => match us, hl with | [_, _, _, _], _ => rfl, .nil⟩⟩
  have d_ball_fault : Dn P w K mg base CX0 2 "ball_fault" ["entry"] [] (sp_ball_fault K) := ⟨⟨_, _, [], ok_ball_fault F_ball_fault T d_rope_stands d_way_stands, He.glo_ok X G (c.fact 2 (f := .glo "ball_fault") rfl), F_ball_fault.kp, FunD.bindsN F_ball_fault fun _ _ _ _ _ _ us hl => match us, hl with | [_], _ => rfl, .nil⟩⟩
  have d_given_by : Dn P w K mg base CX0 1 "given_by" ["rules", "kind", "runs"] [] (sp_given_by K) := ⟨⟨_, _, [], ok_given_by F_given_by T , He.glo_ok X G (c.fact 3 (f := .glo "given_by") rfl), F_given_by.kp, FunD.bindsN F_given_by fun _ _ _ _ _ _ us hl => match us, hl with | [_, _, _], _ => rfl, .nil⟩⟩
  have d_ball_sums : Dn P w K mg base CX0 2 "ball_sums" ["rules", "entry"] [] (sp_ball_sums K) := ⟨⟨_, _, [], ok_ball_sums F_ball_sums T d_given_by, He.glo_ok X G (c.fact 4 (f := .glo "ball_sums") rfl), F_ball_sums.kp, FunD.bindsN F_ball_sums fun _ _ _ _ _ _ us hl => match us, hl with | [_, _], _ => rfl, .nil⟩⟩
  have d__law_mixed : Dn P w K mg base CX0 1 "_law_mixed" ["_law_cell", "_law_k"] [] (sp__law_mixed K) := ⟨⟨_, _, [], ok__law_mixed F__law_mixed T , He.glo_ok X G (c.fact 5 (f := .glo "_law_mixed") rfl), F__law_mixed.kp, FunD.bindsN F__law_mixed fun _ _ _ _ _ _ us hl => match us, hl with | [_, _], _ => rfl, .nil⟩⟩
  have d__law_take : Dn P w K mg base CX0 2 "_law_take" ["_law_pot_here", "_law_many"] [] (sp__law_take K) := ⟨⟨_, _, [], ok__law_take F__law_take T d__law_mixed, He.glo_ok X G (c.fact 6 (f := .glo "_law_take") rfl), F__law_take.kp, FunD.bindsN F__law_take fun _ _ _ _ _ _ us hl => match us, hl with | [_, _], _ => rfl, .nil⟩⟩
  have d__law_pot : Dn P w K mg base CX0 1 "_law_pot" ["_law_cell"] [] (sp__law_pot K) := ⟨⟨_, _, [], ok__law_pot F__law_pot T , He.glo_ok X G (c.fact 7 (f := .glo "_law_pot") rfl), F__law_pot.kp, FunD.bindsN F__law_pot fun _ _ _ _ _ _ us hl => match us, hl with | [_], _ => rfl, .nil⟩⟩
  have d__law_rules : Dn P w K mg base CX0 3 "_law_rules" ["_law_pot_here"] [] (sp__law_rules K) := ⟨⟨_, _, [], ok__law_rules F__law_rules T d__law_take, He.glo_ok X G (c.fact 8 (f := .glo "_law_rules") rfl), F__law_rules.kp, FunD.bindsN F__law_rules fun _ _ _ _ _ _ us hl => match us, hl with | [_], _ => rfl, .nil⟩⟩
  have d__law_word : Dn P w K mg base CX0 3 "_law_word" ["_law_pot_here"] [] (sp__law_word K) := ⟨⟨_, _, [], ok__law_word F__law_word T d__law_take, He.glo_ok X G (c.fact 9 (f := .glo "_law_word") rfl), F__law_word.kp, FunD.bindsN F__law_word fun _ _ _ _ _ _ us hl => match us, hl with | [_], _ => rfl, .nil⟩⟩
  have d__law_ball : Dn P w K mg base CX0 4 "_law_ball" ["_law_pot_here"] [] (sp__law_ball K) := ⟨⟨_, _, [], ok__law_ball F__law_ball T d__law_take d__law_word, He.glo_ok X G (c.fact 10 (f := .glo "_law_ball") rfl), F__law_ball.kp, FunD.bindsN F__law_ball fun _ _ _ _ _ _ us hl => match us, hl with | [_], _ => rfl, .nil⟩⟩
  have d__law_outs : Dn P w K mg base CX0 4 "_law_outs" ["_law_ball_here", "_law_pot_here"] [] (sp__law_outs K) := ⟨⟨_, _, [], ok__law_outs F__law_outs T d__law_word d_ball_fault, He.glo_ok X G (c.fact 11 (f := .glo "_law_outs") rfl), F__law_outs.kp, FunD.bindsN F__law_outs fun _ _ _ _ _ _ us hl => match us, hl with | [_, _], _ => rfl, .nil⟩⟩
  have d__law_more : Dn P w K mg base CX0 1 "_law_more" ["_law_rules_here"] [] (sp__law_more K) := ⟨⟨_, _, [], ok__law_more F__law_more T , He.glo_ok X G (c.fact 12 (f := .glo "_law_more") rfl), F__law_more.kp, FunD.bindsN F__law_more fun _ _ _ _ _ _ us hl => match us, hl with | [_], _ => rfl, .nil⟩⟩
  have d__law_one : Dn P w K mg base CX0 5 "_law_one" ["_law_cell"] [] (sp__law_one K) := ⟨⟨_, _, [], ok__law_one F__law_one T d__law_ball d__law_more d__law_outs d__law_pot d__law_rules d_ball_fault d_ball_sums, He.glo_ok X G (c.fact 13 (f := .glo "_law_one") rfl), F__law_one.kp, FunD.bindsN F__law_one fun _ _ _ _ _ _ us hl => match us, hl with | [_], _ => rfl, .nil⟩⟩
  exact ok_law F_law T d__law_one
end L2.Toy
open PySem PySem.W PySem.Calls PyProof.Rows
set_option maxRecDepth 100000 in
set_option maxHeartbeats 0 in
theorem PySem.Challenge.cw_inningsbook_k12_what_sums_hang_on_holds : PySem.Challenge.rw_inningsbook_k12_what_sums_hang_on.Holds := by
  w_on; o_law
  refine HandSHeadRun.head_any (r := OpenLaw.row PySem.Challenge.rw_inningsbook_k12_what_sums_hang_on) (q := view (OpenLaw.row PySem.Challenge.rw_inningsbook_k12_what_sums_hang_on).prog [16]) (H := L2.Toy.hk) (ob := L2.Toy.ob) (M := 3000) (loose := L2.Toy.loose) (d := HandSHeadRun.topDef (OpenLaw.row PySem.Challenge.rw_inningsbook_k12_what_sums_hang_on).prog 16) (kwd := []) L2.Toy.ob_eq
    (by kernel_rfl) (fun s => by kernel_rfl) L2.Toy.run (by kernel_rfl) (by kernel_rfl) (by kernel_rfl) (by rfl) (by first | assumption | decide +kernel) (by decide +kernel) ⟨rfl, rfl, rfl, rfl, rfl, by decide +kernel⟩ ?hw ?hc
  case hw => w_witness2
  case hc =>
    refine L2.walk_ofE (l := PySem.Challenge.rw_inningsbook_k12_what_sums_hang_on) (n := 63) (k := 6) (x := "_law_script") (CX := L2.CX0) rfl (by decide) (by kernel_rfl) ⟨rfl, by decide, by decide⟩ ?F (fun _ _ _ _ z => z)
    intro w mg fa h Y G hmg0
    obtain ⟨K, KX, c⟩ := Y
    have hmg : mg ("law" : PySem.Str) = some (.ref fa) := by
      have e : (HandSHeadRun.topDef (OpenLaw.row PySem.Challenge.rw_inningsbook_k12_what_sums_hang_on).prog 16).name = ("law" : PySem.Str) := by kernel_rfl
      rw [← e]
      exact hmg0
    obtain ⟨fd, hb, hF⟩ := L2.Toy.facts (P := (PySem.Challenge.rw_inningsbook_k12_what_sums_hang_on).prog) (w := w) KX G hmg c
    exact ⟨K, fd, L2.Toy.sp_law K, KX, hb, fun H a ns hl _ hS => ⟨L2.V.ref a, rfl, a, ns, rfl, hS, hl, fun _ => rfl⟩, hF⟩
#print axioms PySem.Challenge.cw_inningsbook_k12_what_sums_hang_on_holds

