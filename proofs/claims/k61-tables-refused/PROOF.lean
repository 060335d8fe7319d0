import PyProof.Rows.All
import Wide.All
import OpenK.AllK
import Wide.FinOn
import KE.KStateDown
import Lean
import HandS.ForMost
import HandS.Steps
import HandS.IsInst
import HandS.More
import HandS.Exc
import HandS.WordsExc
import HandS.Defaults
import HandS.Head0
import HandS.Head1
import HandS.Head2
import HandS.HeadEnd
import HandS.HeadHook1
import HandS.HeadHook2
import HandS.Style
import HandS.TupLe
import HandS.Rev
import HandS.RevRange
import HandS.DictTup
import HandS.RaiseFrom
import HandS.SuiteRaise
import HandS.SetKeys
import HandS.ExcInit
import HandS.ExcField
import HandS.Walk
import KE.KxText
import HandS.CallSlots
import HandS.ExcIs
import KE.KExcIs
import HandS.TryOnly
import HandS.TryMany
import HandS.ExcOwn
import KE.GoesEnumKw
import HandS.Zip
import HandS.Strs
import PySem.Challenge.RW_inningsbook_k61_tables_refused
set_option Elab.async false
set_option linter.all false
set_option maxRecDepth 100000
set_option maxHeartbeats 4000000

namespace L2.A
open PySem PySem.Spec PyProof.Rows
/-! a layer of our own over HandS: defs by name, operators for every kind of value, one step a construct -/
/-- what is at fp may change, the rest stays -/
def Kp (fp : Addr → Prop) (H H' : Hp) : Prop := ∀ a o, H a = some o → ¬ fp a → H' a = some o
theorem Kp.same {fp : Addr → Prop} {H H' : Hp} (h : Same H H') : Kp fp H H' := fun a o e _ => h a o e
theorem Kp.refl {fp : Addr → Prop} {H : Hp} : Kp fp H H := fun _ _ e _ => e
theorem Kp.trans {fp : Addr → Prop} {H H1 H2 : Hp} (a : Kp fp H H1) (b : Kp fp H1 H2) : Kp fp H H2 := fun x o e n => b x o (a x o e n) n
theorem Kp.upd {H : Hp} {p : Addr} {o : HO} : Kp (fun a => a = p) H (upd H p o) := fun a u e n => by rw [upd_ne n]; exact e
theorem same_new {H : Hp} {p : Addr} {o : HO} (h : H p = none) : Same H (upd H p o) := fun a u e => by rw [upd_ne (ne_of_none e h)]; exact e
theorem same_new2 {H H' : Hp} {p : Addr} {o : HO} (s : Same H H') (h : H' p = none) : Same H (upd H' p o) := s.trans (same_new h)
/-- an object that H does not know may change -/
theorem same_mut {H H' : Hp} {p : Addr} {o : HO} (s : Same H H') (h : H p = none) : Same H (upd H' p o) := fun a u e => by rw [upd_ne (ne_of_none e h)]; exact s a u e
theorem same_kp {H H1 H2 : Hp} {p : Addr} (s : Same H H1) (k : Kp (fun a => a = p) H1 H2) (h : H p = none) : Same H H2 := fun a o e => k a o (s a o e) (ne_of_none e h)
theorem ge_same {H H' : Hp} {a : Addr} {o : HO} (s : Same H H') (h : H a = some o) : H' a = some o := s a o h

section
variable {P : Program} {w : World} {K : PySem.W.Frag} {mg : Str → Option Value} {base : Heap} {CX : CXT} {k : Nat}
/-- a def of the top by its name -/
structure Dn (P : Program) (w : World) (K : PySem.W.Frag) (mg : Str → Option Value) (base : Heap) (CX : CXT) (k : Nat) (x : Str) (ps : List Str) (dvs : List V) (sp : Sp) : Prop where
  ex : ∃ (f : Addr) (fd : FuncData) (ds : List Value), FnOk P w K mg base CX k f fd ps sp ∧ mg x = some (.ref f) ∧ PySem.W.keepIn K (.ref f) = true ∧ Binds K fd ps ds ∧ Vals dvs ds
end
section
variable {X : Cx} {CX : CXT} {k : Nat} {ps : List Str} {dvs : List V} {sp : Sp} {E : XK} {x : Str} {p pos : Pos} {e : Expr} {es : List Expr} {t : TA}
theorem pe_d (D : Dn X.prog X.w X.K X.mg X.base CX k x ps dvs sp) (hr : Room k X.A) (hg : Gl X x) (hx : Passes CX X E) (ha : PA X (e :: es) t) (hdb : (x == ("__debug__" : Str)) = false := by decide)
    (he : starEach (e :: es) X.env = (false, eval e X.env) :: starEach es X.env := by rfl) (hpl : (backTo pos (starEach es X.env)).any (·.1) = false := by rfl) : PE X (.Call (.Name x p) (e :: es) [] pos) (tCall sp dvs E t) := by
  obtain ⟨f, fd, ds, F, hm, hk, hb, hv⟩ := D.ex
  exact pe_call F hr hg hm hk hb hv hx ha hdb he hpl
theorem pe_d0 (D : Dn X.prog X.w X.K X.mg X.base CX k x ps dvs sp) (hr : Room k X.A) (hg : Gl X x) (hx : Passes CX X E) (hdb : (x == ("__debug__" : Str)) = false := by decide) : PE X (.Call (.Name x p) [] [] pos) (tCall sp dvs E tNil) := by
  obtain ⟨f, fd, ds, F, hm, hk, hb, hv⟩ := D.ex
  exact pe_call0 F hr hg hm hk hb hv hx hdb
end

/-! ### steps -/
section
variable {t u : TS} {D : Ends} {σ σ' : St} {H : Hp} {te ta tb tc : TE} {g : TG} {v : V} {i : Nat} {Q : VK} {r r' : R2} {tt tu : TT} {QB : Bool → Hp → Prop} {QS : St → Hp → Prop} {ts : TA} {QL : List V → Hp → Prop} {K : PySem.W.Frag}
theorem go_seq (h : t { D with nx := u D } σ H) : tSeq t u D σ H := h
theorem go_asg (h : te σ H fun x H1 => g x σ H1 D.nx) : tAsg te g D σ H := h
theorem go_name (e : σ.set i (some v) = σ') (h : QS σ' H) : gName i v σ H QS := by show QS (σ.set i (some v)) H; rw [e]; exact h
theorem go_var (e : σ[i]? = some (some v)) (h : Q v H) : tVar i σ H Q := ⟨v, e, h⟩
theorem go_c (h : Q v H) : tC v σ H Q := h
theorem go_op (h : ta σ H fun x H1 => tb σ H1 fun y H2 => r x y H2 Q) : tOp r ta tb σ H Q := h
theorem go_un {ru : V → Hp → VK → Prop} (h : ta σ H fun x H1 => ru x H1 Q) : tUn ru ta σ H Q := h
theorem go_I0 {f : Int → Int → V} {a b : Int} (h : Q (f a b) H) : rI0 f (.int a) (.int b) H Q := ⟨a, b, rfl, rfl, h⟩
theorem go_I {C : Int → Int → Prop} {f : Int → Int → V} {a b : Int} (c : C a b) (h : Q (f a b) H) : rI C f (.int a) (.int b) H Q := ⟨a, b, rfl, rfl, c, h⟩
theorem go_U {f : Int → V} {a : Int} (h : Q (f a) H) : rU f (.int a) H Q := ⟨a, rfl, h⟩
theorem go_ret (h : te σ H D.rt) : tRet te D σ H := h
theorem go_retN (h : D.rt .non H) : tRetN D σ H := h
theorem go_next (h : D.nx σ H) : tNext D σ H := h
theorem go_brk (h : D.bk σ H) : tBreak D σ H := h
theorem go_ct (h : D.ct σ H) : tCont D σ H := h
theorem go_if (h : tt σ H fun b H1 => if b = true then t D σ H1 else u D σ H1) : tIfS tt t u D σ H := h
theorem go_ifx (h : tt σ H fun c H1 => if c = true then ta σ H1 Q else tb σ H1 Q) : tIf tt ta tb σ H Q := h
def KB (x : V) (H : Hp) (QB : Bool → Hp → Prop) : Prop := ∃ k, x = .bl k ∧ QB k H
theorem go_test (h : te σ H fun x H' => KB x H' QB) : tTest te σ H QB := h
theorem go_B (h : te σ H fun x H' => KB x H' QB) : tB te σ H QB := h
theorem go_bl {b : Bool} (h : QB b H) : KB (.bl b) H QB := ⟨b, rfl, h⟩
theorem go_not (h : tt σ H fun c H1 => QB (!c) H1) : tNot tt σ H QB := h
theorem go_and (h : tt σ H fun c H1 => if c = true then tu σ H1 QB else QB false H1) : tAnd tt tu σ H QB := h
theorem go_or (h : tt σ H fun c H1 => if c = true then QB true H1 else tu σ H1 QB) : tOr tt tu σ H QB := h
theorem go_andV (h : ta σ H fun x H1 => KB x H1 fun c H1 => if c = true then tb σ H1 Q else Q (.bl false) H1) : tAndV ta tb σ H Q := h
theorem go_orV (h : ta σ H fun x H1 => KB x H1 fun c H1 => if c = true then Q (.bl true) H1 else tb σ H1 Q) : tOrV ta tb σ H Q := h
theorem go_notV (h : ta σ H fun x H1 => KB x H1 fun c H1 => Q (.bl (!c)) H1) : tNotV ta σ H Q := h
theorem go_drop (h : te σ H fun _ H1 => D.nx σ H1) : tDrop te D σ H := h
theorem go_nil (h : QL [] H) : tNil σ H QL := h
theorem go_cons (h : te σ H fun x H1 => ts σ H1 fun xs H2 => QL (x :: xs) H2) : tCons te ts σ H QL := h
def NewO (o : HO) (H : Hp) (Q : VK) : Prop := ∀ p, H p = none → Q (.ref p) (upd H p o)
def NewT (xs : List V) (H : Hp) (Q : VK) : Prop := xs.length ≤ sizeLine ∧ NewO (.tup xs) H Q
def NewL (xs : List V) (H : Hp) (Q : VK) : Prop := xs.length ≤ sizeLine ∧ NewO (.lst xs) H Q
theorem go_tup (h : ts σ H fun xs H1 => NewT xs H1 Q) : tTup ts σ H Q := h
theorem go_lst (h : ts σ H fun xs H1 => NewL xs H1 Q) : tLst ts σ H Q := h
theorem go_newT {xs : List V} (e : Nat.ble xs.length 1000 = true) (h : NewO (.tup xs) H Q) : NewT xs H Q := ⟨Nat.le_trans (Nat.le_of_ble_eq_true e) (by decide), h⟩
theorem go_newL {xs : List V} (e : Nat.ble xs.length 1000 = true) (h : NewO (.lst xs) H Q) : NewL xs H Q := ⟨Nat.le_trans (Nat.le_of_ble_eq_true e) (by decide), h⟩
theorem go_CB {rc : List V → Hp → VK → Prop} (h : ts σ H fun vs H1 => rc vs H1 Q) : tCB rc ts σ H Q := h
theorem go_call {sp : Sp} {dvs : List V} {E : XK} (h : ts σ H fun vs H1 => sp (vs ++ dvs) H1 Q E) : tCall sp dvs E ts σ H Q := h
theorem go_eq {x y : V} (e : scal x y = true) (h : Q (.bl (decide (x = y))) H) : rEq x y H Q := ⟨e, h⟩
theorem go_ne {x y : V} (e : scal x y = true) (h : Q (.bl (!decide (x = y))) H) : rNe x y H Q := ⟨e, h⟩
theorem go_chain (h : ta σ H fun x H1 => tb σ H1 fun y H2 => r x y H2 fun z H3 => KB z H3 fun k H3 => (if k = true then tc σ H3 fun w' H4 => r' y w' H4 Q else Q (.bl false) H3)) : tChain r r' ta tb tc σ H Q := h
theorem go_gtup {n : Nat} {tg : TGs} {a : Addr} {xs : List V} (hs : SqT K H a xs) (hl : xs.length = n) (h : tg xs σ H QS) : gTup K n tg (.ref a) σ H QS := ⟨a, xs, rfl, hs, hl, h⟩
theorem go_gcons {tg : TGs} {vs : List V} (h : g v σ H fun σ' H' => tg vs σ' H' QS) : gCons g tg (v :: vs) σ H QS := ⟨v, vs, rfl, h⟩
theorem go_gnil (h : QS σ H) : gNil [] σ H QS := ⟨rfl, h⟩
theorem go_nx {a : St → Hp → Prop} {b : VK} {c d : St → Hp → Prop} (h : a σ H) : Ends.nx ⟨a, b, c, d⟩ σ H := h
theorem go_rt {a : St → Hp → Prop} {b : VK} {c d : St → Hp → Prop} (h : b v H) : Ends.rt ⟨a, b, c, d⟩ v H := h
theorem go_bk {a : St → Hp → Prop} {b : VK} {c d : St → Hp → Prop} (h : c σ H) : Ends.bk ⟨a, b, c, d⟩ σ H := h
theorem go_ctx {a : St → Hp → Prop} {b : VK} {c d : St → Hp → Prop} (h : d σ H) : Ends.ct ⟨a, b, c, d⟩ σ H := h
theorem go_sub {to ti : TE} {ps : TSet} (h : to σ H fun o H1 => ti σ H1 fun i H2 => ps o i v H2 fun H3 => QS σ H3) : gSub to ti ps v σ H QS := h
theorem iteNT {A B : Prop} (h : B) : if (!true) = true then A else B := by rw [if_neg (by decide)]; exact h
theorem iteNF {A B : Prop} (h : A) : if (!false) = true then A else B := by rw [if_pos (by decide)]; exact h
theorem if2 {b : Bool} {A B : Prop} (h1 : b = true → A) (h2 : b = false → B) : if b = true then A else B := by
  cases b with
  | true => exact h1 rfl
  | false => exact h2 rfl
end
end L2.A

namespace L2.A
open PySem PySem.Spec PyProof.Rows
/-! ### operators for every kind of value -/
theorem boot_len : bootBuiltins "len" = some (.builtin "len") := by decide +kernel
theorem boot_isinstance : bootBuiltins "isinstance" = some (.builtin "isinstance") := by decide +kernel
theorem boot_sum : bootBuiltins "sum" = some (.builtin "sum") := by decide +kernel
theorem boot_max : bootBuiltins "max" = some (.builtin "max") := by decide +kernel
theorem boot_min : bootBuiltins "min" = some (.builtin "min") := by decide +kernel
theorem boot_all : bootBuiltins "all" = some (.builtin "all") := by decide +kernel
theorem boot_any : bootBuiltins "any" = some (.builtin "any") := by decide +kernel
theorem boot_abs : bootBuiltins "abs" = some (.builtin "abs") := by decide +kernel
theorem boot_sorted : bootBuiltins "sorted" = some (.builtin "sorted") := by decide +kernel
theorem boot_int : bootBuiltins "int" = some (.type "int") := by decide +kernel
theorem boot_str : bootBuiltins "str" = some (.type "str") := by decide +kernel
theorem boot_bool : bootBuiltins "bool" = some (.type "bool") := by decide +kernel
theorem boot_list : bootBuiltins "list" = some (.type "list") := by decide +kernel
theorem boot_tuple : bootBuiltins "tuple" = some (.type "tuple") := by decide +kernel
theorem boot_dict : bootBuiltins "dict" = some (.type "dict") := by decide +kernel
theorem boot_set : bootBuiltins "set" = some (.type "set") := by decide +kernel
theorem boot_ValueError : bootBuiltins "ValueError" = some (.type "ValueError") := by decide +kernel
section
variable {X : Cx} {K : PySem.W.Frag} {H : Hp} {Q : VK} {v : V}
abbrev rStrA : R2 := fun x y H Q => ∃ i j, x = .str i ∧ y = .str j ∧ i.length + j.length ≤ sizeLine ∧ Q (.str (i ++ j)) H
abbrev rIntB : R2 := fun x y H Q => ∃ i k, x = .int i ∧ y = .bl k ∧ Q (.int (i + b2i k)) H
def rAddX (K : PySem.W.Frag) : R2 := fun x y H Q => rI0 (fun i j => .int (i + j)) x y H Q ∨ rStrA x y H Q ∨ rCat x y H Q ∨ rCatT K x y H Q ∨ rIntB x y H Q
theorem op_addX : OpR X (binaryOp .Add) (rAddX X.K) := op_add.or (op_add_str.or (op_cat.or (op_catT.or op_add_ib)))
theorem go_addI {a b : Int} (h : Q (.int (a + b)) H) : rAddX K (.int a) (.int b) H Q := .inl ⟨a, b, rfl, rfl, h⟩
theorem go_addS {a b : Str} (z : a.length + b.length ≤ sizeLine) (h : Q (.str (a ++ b)) H) : rAddX K (.str a) (.str b) H Q := .inr (.inl ⟨a, b, rfl, rfl, z, h⟩)
theorem go_addB {a : Int} {b : Bool} (h : Q (.int (a + b2i b)) H) : rAddX K (.int a) (.bl b) H Q := .inr (.inr (.inr (.inr ⟨a, b, rfl, rfl, h⟩)))
theorem go_addL {p q : Addr} {xs ys : List V} (hp : H p = some (.lst xs)) (hq : H q = some (.lst ys)) (z : xs.length + ys.length ≤ sizeLine) (h : NewO (.lst (xs ++ ys)) H Q) : rAddX K (.ref p) (.ref q) H Q :=
  .inr (.inr (.inl ⟨p, q, xs, ys, rfl, rfl, hp, hq, z, h⟩))
theorem go_addT {p q : Addr} {x : V} {xs : List V} {y : V} {ys : List V} (hp : SqT K H p (x :: xs)) (hq : SqT K H q (y :: ys)) (z : (x :: xs).length + (y :: ys).length ≤ sizeLine) (h : NewO (.tup (x :: xs ++ y :: ys)) H Q) : rAddX K (.ref p) (.ref q) H Q :=
  .inr (.inr (.inr (.inl ⟨p, q, _, _, rfl, rfl, hp, hq, by simp, z, (fun e => nomatch e), fun _ => h⟩)))
/-- whole numbers, or a list so many times -/
def rMulS : R2 := fun x y H Q => ∃ a n, x = .str a ∧ y = .int n ∧ MulOk a n ∧ Q (.str (Txt.mul a n)) H
theorem op_mulS : OpR X (binaryOp .Mult) rMulS := by
  intro pins s σ H x y v u Q I rx ry h
  obtain ⟨a, n, rfl, rfl, ok, q⟩ := h
  obtain ⟨t, rfl⟩ := rx
  obtain ⟨t', rfl⟩ := ry
  exact SB.mul ok fun t' k => ⟨.str _, H, I.tok k, ⟨t', rfl⟩, q⟩
def rMulX : R2 := fun x y H Q => rI CMul (fun i j => .int (i * j)) x y H Q ∨ rRep x y H Q ∨ rMulS x y H Q
theorem op_mulX : OpR X (binaryOp .Mult) rMulX := op_mul.or (op_rep.or op_mulS)
theorem go_mulS {a : Str} {n : Int} (ok : MulOk a n) (h : Q (.str (Txt.mul a n)) H) : rMulX (.str a) (.int n) H Q := .inr (.inr ⟨a, n, rfl, rfl, ok, h⟩)
theorem go_mulI {a b : Int} (c : CMul a b) (h : Q (.int (a * b)) H) : rMulX (.int a) (.int b) H Q := .inl ⟨a, b, rfl, rfl, c, h⟩
/-- == -/
def rEqX (K : PySem.W.Frag) : R2 := fun x y H Q => rEq x y H Q ∨ rEqD K x y H Q
def rNeX (K : PySem.W.Frag) : R2 := fun x y H Q => rNe x y H Q ∨ rNeD K x y H Q
theorem op_eqX (hu : X.A.units + 64 < cLine) : OpR X (compareOp .Eq) (rEqX X.K) := op_eq.or (op_eqD hu)
theorem op_neX (hu : X.A.units + 64 < cLine) : OpR X (compareOp .NotEq) (rNeX X.K) := op_ne.or (op_neD hu)
theorem go_eqS {x y : V} (e : scal x y = true) (h : Q (.bl (decide (x = y))) H) : rEqX K x y H Q := .inl ⟨e, h⟩
theorem go_neS {x y : V} (e : scal x y = true) (h : Q (.bl (!decide (x = y))) H) : rNeX K x y H Q := .inl ⟨e, h⟩
/-- in -/
theorem op_in_d (hu : X.A.units + 1 < cLine) : OpR X (compareOp .In) (fun y x H Q => ∃ a o, x = .ref a ∧ DGet H a y o ∧ Q (.bl o.isSome) H) := by
  intro pins s σ H y x iv u Q I ry rx h
  obtain ⟨a, o, rfl, g, q⟩ := h
  cases rx
  exact d_in hu I g ry fun s3 I3 => ⟨.bl o.isSome, H, I3, rfl, q⟩
theorem op_notIn_d (hu : X.A.units + 1 < cLine) : OpR X (compareOp .NotIn) (fun y x H Q => ∃ a o, x = .ref a ∧ DGet H a y o ∧ Q (.bl (!o.isSome)) H) := by
  intro pins s σ H y x iv u Q I ry rx h
  obtain ⟨a, o, rfl, g, q⟩ := h
  cases rx
  exact d_notIn hu I g ry fun s3 I3 => ⟨.bl (!o.isSome), H, I3, rfl, q⟩
abbrev rInD : R2 := fun y x H Q => ∃ a o, x = .ref a ∧ DGet H a y o ∧ Q (.bl o.isSome) H
abbrev rNotInD : R2 := fun y x H Q => ∃ a o, x = .ref a ∧ DGet H a y o ∧ Q (.bl (!o.isSome)) H
def rInX (K : PySem.W.Frag) : R2 := fun x y H Q => rIn K false x y H Q ∨ rInS x y H Q ∨ rInD x y H Q
def rNotInX (K : PySem.W.Frag) : R2 := fun x y H Q => rIn K true x y H Q ∨ rNotInS x y H Q ∨ rNotInD x y H Q
theorem op_inX (hu : X.A.units + 1 < cLine) : OpR X (compareOp .In) (rInX X.K) := op_in_seq.or (op_inS.or (op_in_d hu))
theorem op_notInX (hu : X.A.units + 1 < cLine) : OpR X (compareOp .NotIn) (rNotInX X.K) := op_notIn_seq.or (op_notInS.or (op_notIn_d hu))
theorem go_inL {x : V} {p : Addr} {xs : List V} (hp : SqL K H p xs) (fx : flatV x = true) (fs : xs.all flatV = true) (h : Q (.bl (inV x xs)) H) : rInX K x (.ref p) H Q := .inl ⟨p, xs, rfl, .inl hp, fx, fs, h⟩
theorem go_inT {x : V} {p : Addr} {xs : List V} (hp : SqT K H p xs) (fx : flatV x = true) (fs : xs.all flatV = true) (h : Q (.bl (inV x xs)) H) : rInX K x (.ref p) H Q := .inl ⟨p, xs, rfl, .inr hp, fx, fs, h⟩
theorem go_inSg {c : Nat} {z : Str} (h : Q (.bl (decide (c ∈ z.cps.toList))) H) : rInX K (.str ⟨#[c]⟩) (.str z) H Q := .inr (.inl ⟨c, z, rfl, rfl, h⟩)
theorem go_inK {p : Addr} {kvs : List (Key × V)} (k : Key) (hp : H p = some (.dK kvs)) (h : Q (.bl (valV kvs k).isSome) H) : rInX K (kV k) (.ref p) H Q := .inr (.inr ⟨p, _, rfl, DGet.k hp, h⟩)
theorem go_ninL {x : V} {p : Addr} {xs : List V} (hp : SqL K H p xs) (fx : flatV x = true) (fs : xs.all flatV = true) (h : Q (.bl (!inV x xs)) H) : rNotInX K x (.ref p) H Q := .inl ⟨p, xs, rfl, .inl hp, fx, fs, h⟩
theorem go_ninT {x : V} {p : Addr} {xs : List V} (hp : SqT K H p xs) (fx : flatV x = true) (fs : xs.all flatV = true) (h : Q (.bl (!inV x xs)) H) : rNotInX K x (.ref p) H Q := .inl ⟨p, xs, rfl, .inr hp, fx, fs, h⟩
theorem go_ninSg {c : Nat} {z : Str} (h : Q (.bl (!decide (c ∈ z.cps.toList))) H) : rNotInX K (.str ⟨#[c]⟩) (.str z) H Q := .inr (.inl ⟨c, z, rfl, rfl, h⟩)
theorem go_ninK {p : Addr} {kvs : List (Key × V)} (k : Key) (hp : H p = some (.dK kvs)) (h : Q (.bl (!(valV kvs k).isSome)) H) : rNotInX K (kV k) (.ref p) H Q := .inr (.inr ⟨p, _, rfl, DGet.k hp, h⟩)
/-- is: None alone, or a truth -/
abbrev rIsO : R2 := fun x y H Q => ∃ a b oa ob, x = .ref a ∧ y = .ref b ∧ H a = some oa ∧ isObj oa = true ∧ H b = some ob ∧ isObj ob = true ∧ Q (.bl (decide (a = b))) H
abbrev rNotO : R2 := fun x y H Q => ∃ a b oa ob, x = .ref a ∧ y = .ref b ∧ H a = some oa ∧ isObj oa = true ∧ H b = some ob ∧ isObj ob = true ∧ Q (.bl (!decide (a = b))) H
abbrev rIsC (K : PySem.W.Frag) : R2 := fun x y H Q => ∃ a b, x = V.ref a ∧ y = V.ref b ∧ (a = b ∨ (PySem.W.makesIn K a = true ∧ PySem.W.makesIn K b = true)) ∧ Q (.bl (decide (a = b))) H
abbrev rNotC (K : PySem.W.Frag) : R2 := fun x y H Q => ∃ a b, x = V.ref a ∧ y = V.ref b ∧ (a = b ∨ (PySem.W.makesIn K a = true ∧ PySem.W.makesIn K b = true)) ∧ Q (.bl (!decide (a = b))) H
def rIsX (K : PySem.W.Frag) : R2 := fun x y H Q => rIsN x y H Q ∨ rIsB x y H Q ∨ rIsO x y H Q ∨ rIsC K x y H Q
def rIsNotX (K : PySem.W.Frag) : R2 := fun x y H Q => rNotN x y H Q ∨ rNotB x y H Q ∨ rNotO x y H Q ∨ rNotC K x y H Q
theorem op_isX : OpR X (compareOp .Is) (rIsX X.K) := op_isN1.or (op_isBl.or (op_is_ref.or op_is_cls))
theorem op_isNotX : OpR X (compareOp .IsNot) (rIsNotX X.K) := op_notN1.or (op_notBl.or (op_isnot_ref.or op_isnot_cls))
theorem go_isN {x : V} (h : Q (.bl (decide (x = .non))) H) : rIsX K x .non H Q := .inl ⟨rfl, h⟩
theorem go_notN {x : V} (h : Q (.bl (!decide (x = .non))) H) : rIsNotX K x .non H Q := .inl ⟨rfl, h⟩
theorem go_isB {a b : Bool} (h : Q (.bl (decide (a = b))) H) : rIsX K (.bl a) (.bl b) H Q := .inr (.inl ⟨_, _, rfl, rfl, h⟩)
theorem go_notB {a b : Bool} (h : Q (.bl (!decide (a = b))) H) : rIsNotX K (.bl a) (.bl b) H Q := .inr (.inl ⟨_, _, rfl, rfl, h⟩)
/-- o[i] -/
abbrev rIxD : R2 := fun x y H Q => ∃ a v, x = .ref a ∧ DGet H a y (some v) ∧ Q v H
theorem ix_dict (hu : X.A.units + 1 < cLine) : IxR X rIxD := by
  intro value slice pins s σ H x y v u Q I rx ry h hs
  obtain ⟨a, z, rfl, g, q⟩ := h
  cases rx
  exact tail_any (dict_typeIs I g) PySem.F.slot_dict_getitem.lookup (d_getItem hu I g ry fun w' s3 I3 rw' => ⟨z, H, I3, rw', q⟩) hs
def rIxX (K : PySem.W.Frag) : R2 := fun x y H Q => rIxL K x y H Q ∨ rIxT K x y H Q ∨ rIxS x y H Q ∨ rIxD x y H Q
theorem ix_X (hu : X.A.units + 1 < cLine) : IxR X (rIxX X.K) := ix_list.or (ix_tup.or (ix_str.or (ix_dict hu)))
theorem go_xL {p : Addr} {xs : List V} {j : Int} (hp : SqL K H p xs) (ha : atI xs j = some v) (h : Q v H) : rIxX K (.ref p) (.int j) H Q := .inl ⟨p, xs, j, v, rfl, rfl, hp, ha, h⟩
theorem go_xT {p : Addr} {xs : List V} {j : Int} (hp : SqT K H p xs) (ha : atI xs j = some v) (h : Q v H) : rIxX K (.ref p) (.int j) H Q := .inr (.inl ⟨p, xs, j, v, rfl, rfl, hp, ha, h⟩)
theorem go_xS {z : Str} {j : Int} {c : Nat} (hz : z.length ≤ sizeLine) (ha : atI z.cps.toList j = some c) (h : Q (.str ⟨#[c]⟩) H) : rIxX K (.str z) (.int j) H Q := .inr (.inr (.inl ⟨z, j, c, rfl, rfl, hz, ha, h⟩))
theorem go_xK {p : Addr} {kvs : List (Key × V)} (k : Key) (hp : H p = some (.dK kvs)) (hv : valV kvs k = some v) (h : Q v H) : rIxX K (.ref p) (kV k) H Q := .inr (.inr (.inr ⟨p, v, rfl, hv ▸ DGet.k hp, h⟩))
theorem go_xKs {p : Addr} {kvs : List (Key × V)} {z : Str} (hp : H p = some (.dK kvs)) (hv : valV kvs (Sum.inr z) = some v) (h : Q v H) : rIxX K (.ref p) (.str z) H Q := go_xK (Sum.inr z) hp hv h
/-- o[i] = e -/
theorem PSet.or {r r' : TSet} (h : PSet X r) (h' : PSet X r') : PSet X (fun o i v H Q => r o i v H Q ∨ r' o i v H Q) := by
  intro pins s σ H o i v ov iv u Q I ro ri rv q
  rcases q with q | q
  · exact h pins s σ H o i v ov iv u Q I ro ri rv q
  · exact h' pins s σ H o i v ov iv u Q I ro ri rv q
abbrev rSetD : TSet := fun o i v H Q => ∃ a H4, o = .ref a ∧ DPut H a i v H4 ∧ Q H4
theorem set_dict (hu : X.A.units + 1 < cLine) : PSet X rSetD := by
  intro pins s σ H o i v ov iv u Q I ro ri rv h
  obtain ⟨a, H4, rfl, g, q⟩ := h
  cases ro
  exact d_setItem hu I g ri rv fun s4 I4 => ⟨H4, I4, q⟩
def rSetX : TSet := fun o i v H Q => rSetL o i v H Q ∨ rSetD o i v H Q
theorem set_X (hu : X.A.units + 1 < cLine) : PSet X rSetX := PSet.or set_list (set_dict hu)
variable {QH : Hp → Prop}
theorem go_sL {l : Addr} {xs : List V} {j : Int} {n : Nat} (hl : H l = some (.lst xs)) (hj : ixN xs.length j = some n) (h : QH (upd H l (.lst (xs.set n v)))) : rSetX (.ref l) (.int j) v H QH := .inl ⟨l, xs, j, n, rfl, rfl, hl, hj, h⟩
theorem go_sK {p : Addr} {kvs : List (Key × V)} (k : Key) (hp : H p = some (.dK kvs)) (z : kvs.length < sizeLine) (h : QH (upd H p (.dK (putK kvs k v)))) : rSetX (.ref p) (kV k) v H QH := .inr ⟨p, _, rfl, DPut.k hp z, h⟩
theorem go_sKs {p : Addr} {kvs : List (Key × V)} {x : Str} (hp : H p = some (.dK kvs)) (z : kvs.length < sizeLine) (h : QH (upd H p (.dK (putK kvs (Sum.inr x) v)))) : rSetX (.ref p) (.str x) v H QH := go_sK (Sum.inr x) hp z h
/-- slices -/
abbrev rSlS : V → Option Int → Option Int → Hp → VK → Prop := fun x lo hi H Q => ∃ z, x = .str z ∧ z.length ≤ sizeLine ∧ Q (.str (cutS z lo hi)) H
def rSlX (K : PySem.W.Frag) : V → Option Int → Option Int → Hp → VK → Prop := fun x lo hi H Q => rSlL K x lo hi H Q ∨ rSlT K x lo hi H Q ∨ rSlS x lo hi H Q
theorem sl_X : SlR X (rSlX X.K) := sl_list.or (sl_tup.or sl_str)
/-- len, int, isinstance, truth -/
abbrev rLenD : List V → Hp → VK → Prop := fun xs H Q => ∃ a kvs, xs = [V.ref a] ∧ H a = some (.dK kvs) ∧ Q (.int kvs.length) H
abbrev rLenV (K : PySem.W.Frag) : List V → Hp → VK → Prop := fun xs H Q => ∃ x n, xs = [x] ∧ LenV K x H n ∧ Q (.int n) H
def rLenX (K : PySem.W.Frag) : List V → Hp → VK → Prop := fun xs H Q => rLenV K xs H Q ∨ rLenD xs H Q
theorem call_lenX : CallR X (.builtin "len") (rLenX X.K) := call_len.or call_lenD
theorem go_lenL {p : Addr} {xs : List V} (hp : SqL K H p xs) (h : Q (.int xs.length) H) : rLenX K [.ref p] H Q := .inl ⟨_, _, rfl, .inl ⟨xs, hp, rfl⟩, h⟩
theorem go_lenT {p : Addr} {xs : List V} (hp : SqT K H p xs) (h : Q (.int xs.length) H) : rLenX K [.ref p] H Q := .inl ⟨_, _, rfl, .inr ⟨xs, hp, rfl⟩, h⟩
theorem go_lenS {z : Str} (hz : z.length ≤ sizeLine) (h : Q (.int z.length) H) : rLenX K [.str z] H Q := .inl ⟨.str z, z.length, rfl, ⟨hz, rfl⟩, h⟩
theorem go_lenD {p : Addr} {kvs : List (Key × V)} (hp : H p = some (.dK kvs)) (h : Q (.int kvs.length) H) : rLenX K [.ref p] H Q := .inr ⟨p, kvs, rfl, hp, h⟩
abbrev rInt1 : List V → Hp → VK → Prop := fun xs H Q => (∃ i, xs = [.int i] ∧ Q (.int i) H) ∨ ∃ k, xs = [.bl k] ∧ Q (.int (if k then 1 else 0)) H
abbrev rIntS : List V → Hp → VK → Prop := fun xs H Q => ∃ a n, xs = [.str a] ∧ PySem.intText? a = some n ∧ a.length ≤ 640 ∧ Q (.int n) H
def rIntX : List V → Hp → VK → Prop := fun xs H Q => rInt1 xs H Q ∨ rIntS xs H Q
theorem call_intX : CallR X (.type "int") rIntX := call_int1.or call_int_str
theorem go_intI {i : Int} (h : Q (.int i) H) : rIntX [.int i] H Q := .inl (.inl ⟨i, rfl, h⟩)
theorem go_intB {k : Bool} (h : Q (.int (if k then 1 else 0)) H) : rIntX [.bl k] H Q := .inl (.inr ⟨k, rfl, h⟩)
theorem go_intS {a : Str} {n : Int} (e : PySem.intText? a = some n) (z : a.length ≤ 640) (h : Q (.int n) H) : rIntX [.str a] H Q := .inr ⟨a, n, rfl, e, z, h⟩
def rIsiX (K : PySem.W.Frag) : List V → Hp → VK → Prop := fun xs H Q => rIsi K xs H Q ∨ rIsiT K xs H Q
theorem call_isiX : CallR X (.builtin "isinstance") (rIsiX X.K) := call_isi.or call_isiT
theorem go_isi {x : V} {T U : String} {b : Bool} (ty : TyX K H x (.type U)) (e : kitB U T = some b) (h : Q (.bl b) H) : rIsiX K [x, .ty T] H Q := .inl ⟨x, .ty T, .type U, .type T, b, rfl, .ty T, ty, kit_ty e, h⟩
def rListO (K : PySem.W.Frag) : List V → Hp → VK → Prop := fun xs H Q => ∃ p ys, xs = [.ref p] ∧ (SqL K H p ys ∨ SqT K H p ys) ∧ ∀ l, H l = none → Q (.ref l) (upd H l (.lst ys))
theorem call_listO : CallR X (.type "list") (rListO X.K) := call_list_of
def rTupO (K : PySem.W.Frag) : List V → Hp → VK → Prop := fun xs H Q => ∃ p ys, xs = [.ref p] ∧ ((SqL K H p ys ∧ ∀ l, H l = none → Q (.ref l) (upd H l (.tup ys))) ∨ (SqT K H p ys ∧ Q (.ref p) H))
theorem call_tupO : CallR X (.type "tuple") (rTupO X.K) := call_tuple_of
def rMx2 : List V → Hp → VK → Prop := fun xs H Q => ∃ i j, xs = [.int i, .int j] ∧ Q (.int (if j > i then j else i)) H
def rMn2 : List V → Hp → VK → Prop := fun xs H Q => ∃ i j, xs = [.int i, .int j] ∧ Q (.int (if j < i then j else i)) H
theorem call_mx2 (hc : X.calm = true) : CallR X (.builtin "max") rMx2 := call_max2 hc
theorem call_mn2 (hc : X.calm = true) : CallR X (.builtin "min") rMn2 := call_min2 hc
def rAbsI : List V → Hp → VK → Prop := fun xs H Q => ∃ i, xs = [.int i] ∧ Q (.int (if i < 0 then -i else i)) H
theorem call_absI : CallR X (.builtin "abs") rAbsI := call_abs
def rStrI : List V → Hp → VK → Prop := fun xs H Q => ∃ i, xs = [.int i] ∧ i.natAbs.log2 < 1920 ∧ Q (.str (toString i)) H
theorem call_strI : CallR X (.type "str") rStrI := call_str_int
theorem go_listL {l : Addr} {xs : List V} (hS : SqL K H l xs) (h : NewO (.lst xs) H Q) : rListO K [V.ref l] H Q := ⟨l, xs, rfl, .inl hS, h⟩
theorem go_listT {l : Addr} {xs : List V} (hS : SqT K H l xs) (h : NewO (.lst xs) H Q) : rListO K [V.ref l] H Q := ⟨l, xs, rfl, .inr hS, h⟩
theorem go_tupL {l : Addr} {xs : List V} (hS : SqL K H l xs) (h : NewO (.tup xs) H Q) : rTupO K [V.ref l] H Q := ⟨l, xs, rfl, .inl ⟨hS, h⟩⟩
theorem go_tupT {l : Addr} {xs : List V} (hS : SqT K H l xs) (h : Q (.ref l) H) : rTupO K [V.ref l] H Q := ⟨l, xs, rfl, .inr ⟨hS, h⟩⟩
theorem go_max {a b : Int} (h : Q (.int (max a b)) H) : rMx2 [V.int a, V.int b] H Q := ⟨a, b, rfl, by
  have e : (if b > a then b else a) = max a b := by
    by_cases c : b > a
    · rw [if_pos c]; omega
    · rw [if_neg c]; omega
  rw [e]; exact h⟩
theorem go_min {a b : Int} (h : Q (.int (min a b)) H) : rMn2 [V.int a, V.int b] H Q := ⟨a, b, rfl, by
  have e : (if b < a then b else a) = min a b := by
    by_cases c : b < a
    · rw [if_pos c]; omega
    · rw [if_neg c]; omega
  rw [e]; exact h⟩
theorem go_abs {a : Int} (h : Q (.int a.natAbs) H) : rAbsI [V.int a] H Q := ⟨a, rfl, by
  have e : (if a < 0 then -a else a) = (a.natAbs : Int) := by
    by_cases c : a < 0
    · rw [if_pos c]; omega
    · rw [if_neg c]; omega
  rw [e]; exact h⟩
theorem go_str {a : Int} (z : a.natAbs.log2 < 1920) (h : Q (.str (toString a)) H) : rStrI [V.int a] H Q := ⟨a, rfl, z, h⟩
def tTruX (K : PySem.W.Frag) (te : TE) : TT := fun σ H Q => te σ H fun x H' => ∃ k, TruV K x H' k ∧ Q k H'
theorem pt_truX {a : Expr} {ta : TE} (ha : PE X a ta) (he : ∀ whole, isTrue a X.env whole = (do let v ← whole; standAt a.pos; holding [v] (truthy v)) := by intro _; rfl) : PT X a (tTruX X.K ta) := pt_truth ha he
def KT (K : PySem.W.Frag) (x : V) (H : Hp) (QB : Bool → Hp → Prop) : Prop := ∃ k, TruV K x H k ∧ QB k H
theorem go_tru {te : TE} {σ : St} {QB : Bool → Hp → Prop} (h : te σ H fun x H' => KT K x H' QB) : tTruX K te σ H QB := h
theorem go_truB {b : Bool} {QB : Bool → Hp → Prop} (h : QB b H) : KT K (.bl b) H QB := ⟨b, rfl, h⟩
theorem go_truI {i : Int} {QB : Bool → Hp → Prop} (h : QB (i != 0) H) : KT K (.int i) H QB := ⟨_, rfl, h⟩
theorem go_truN {QB : Bool → Hp → Prop} (h : QB false H) : KT K .non H QB := ⟨_, rfl, h⟩
theorem kit_ii : kitB "int" "int" = some true := by decide +kernel
theorem kit_ib : kitB "int" "bool" = some false := by decide +kernel
theorem kit_bb : kitB "bool" "bool" = some true := by decide +kernel
theorem kit_bi : kitB "bool" "int" = some true := by decide +kernel
theorem kit_ss : kitB "str" "str" = some true := by decide +kernel
theorem kit_nb : kitB "NoneType" "bool" = some false := by decide +kernel
theorem kit_ni : kitB "NoneType" "int" = some false := by decide +kernel
theorem kit_ns : kitB "NoneType" "str" = some false := by decide +kernel
theorem kit_nt : kitB "NoneType" "tuple" = some false := by decide +kernel
theorem kit_is : kitB "int" "str" = some false := by decide +kernel
theorem kit_si : kitB "str" "int" = some false := by decide +kernel
theorem kit_sb : kitB "str" "bool" = some false := by decide +kernel
theorem kit_tt : kitB "tuple" "tuple" = some true := by decide +kernel
theorem kit_ll : kitB "list" "list" = some true := by decide +kernel
theorem kit_tl : kitB "tuple" "list" = some false := by decide +kernel
theorem kit_lt : kitB "list" "tuple" = some false := by decide +kernel
theorem kit_bs : kitB "bool" "str" = some false := by decide +kernel
/-- a list or a tuple that is walked -/
def IX (K : PySem.W.Frag) (x : V) (H1 : Hp) (R : It → Hp → Prop) : Prop := (∃ a, x = .ref a ∧ (∃ xs, SqL K H1 a xs) ∧ R (Itl K a) H1) ∨ (∃ a, x = .ref a ∧ (∃ xs, SqT K H1 a xs) ∧ R (Itt K a) H1) ∨ (∃ z, x = .str z ∧ R (Its z) H1)
def iX (K : PySem.W.Frag) (tl : TE) : TI := fun σ H R => tl σ H fun x H1 => (∃ a, x = .ref a ∧ (∃ xs, SqL K H1 a xs) ∧ R (Itl K a) H1) ∨ (∃ a, x = .ref a ∧ (∃ xs, SqT K H1 a xs) ∧ R (Itt K a) H1) ∨ (∃ z, x = .str z ∧ R (Its z) H1)
theorem pi_X {tg l : Expr} {tl : TE} (hl : PE X l tl) : PI X tg l (iX X.K tl) := by
  refine ⟨fun pins s σ H R I h => ?_⟩
  refine thn (hl.run pins s σ H _ I h) fun v s1 ⟨x, H1, I1, r1, q1⟩ => ?_
  rcases q1 with ⟨a, ex, ⟨xs, hq⟩, q⟩ | ⟨a, ex, ⟨xs, hq⟩, q⟩ | ⟨z, ex, q⟩
  · subst ex
    cases r1
    obtain ⟨its, rv, p, hz⟩ := I1.list hq
    refine wpAny_pyIter_list p.isList ?_
    refine ⟨s1.heap.objs.size, [s1.heap.objs.size], _, _, H1, rfl, I1.kept (t' := s1.toks) fun b o e => Heap.get?_push_of_some _ e, turn_list a _, ⟨_, Heap.get?_push_size _ rfl, rfl, rfl⟩, fun b hb => ?_, q⟩
    have e : b = s1.heap.objs.size := by simpa using hb
    subst e
    exact I1.fpOk (Nat.le_refl _) (I1.hok.fresh (Nat.le_refl _))
  · subst ex
    cases r1
    obtain ⟨its, rv, p, hz⟩ := I1.tuple hq
    refine wpAny_pyIter_tuple (show s1.heap.IsTuple a its.toArray from p) ?_
    refine ⟨s1.heap.objs.size, [s1.heap.objs.size], _, _, H1, rfl, I1.kept (t' := s1.toks) fun b o e => Heap.get?_push_of_some _ e, turn_tuple a _, ⟨_, Heap.get?_push_size _ rfl, rfl, rfl⟩, fun b hb => ?_, q⟩
    have e : b = s1.heap.objs.size := by simpa using hb
    subst e
    exact I1.fpOk (Nat.le_refl _) (I1.hok.fresh (Nat.le_refl _))
  · subst ex
    obtain ⟨t, rfl⟩ := r1
    cases ha : z.cps.all (· < 128)
    · exact wpAny_pyIter_wide ha (pi_one (tk := s1.toks) I1 _ (turn_str _ z t "str_iterator" (.inr rfl)) ⟨_, Heap.get?_push_size _ rfl, rfl, rfl⟩ q)
    · exact wpAny_pyIter_ascii ha (pi_one (tk := s1.toks) I1 _ (turn_str _ z t "str_ascii_iterator" (.inl rfl)) ⟨_, Heap.get?_push_size _ rfl, rfl, rfl⟩ q)
end
end L2.A

namespace L2.A
open PySem PySem.Spec PyProof.Rows
theorem go_start {t : TS} {D : Ends} {N : List Str} {vs : List V} {σ : St} {H : Hp} (e : start N vs = σ) (h : t D σ H) : t D (start N vs) H := by rw [e]; exact h
theorem ite_T {b : Bool} {A B : Prop} (e : b = true) (h : A) : if b = true then A else B := by rw [if_pos e]; exact h
theorem ite_F {b : Bool} {A B : Prop} (e : b = false) (h : B) : if b = true then A else B := by rw [e]; exact iteF h
/-- promises by the number of arguments -/
def Sp0 (R : Hp → VK → XK → Prop) : Sp := fun vs H Q E => vs = [] ∧ R H Q E
def Sp1 (R : V → Hp → VK → XK → Prop) : Sp := fun vs H Q E => ∃ a, vs = [a] ∧ R a H Q E
def Sp2 (R : V → V → Hp → VK → XK → Prop) : Sp := fun vs H Q E => ∃ a b, vs = [a, b] ∧ R a b H Q E
def Sp3 (R : V → V → V → Hp → VK → XK → Prop) : Sp := fun vs H Q E => ∃ a b c, vs = [a, b, c] ∧ R a b c H Q E
def Sp4 (R : V → V → V → V → Hp → VK → XK → Prop) : Sp := fun vs H Q E => ∃ a b c d, vs = [a, b, c, d] ∧ R a b c d H Q E
def Sp5 (R : V → V → V → V → V → Hp → VK → XK → Prop) : Sp := fun vs H Q E => ∃ a b c d e, vs = [a, b, c, d, e] ∧ R a b c d e H Q E
section
variable {vs : List V} {H : Hp} {Q : VK} {E : XK} {a b c d e : V}
theorem len0 {R} (h : Sp0 R vs H Q E) : vs.length = 0 := by obtain ⟨rfl, _⟩ := h; rfl
theorem len1 {R} (h : Sp1 R vs H Q E) : vs.length = 1 := by obtain ⟨_, rfl, _⟩ := h; rfl
theorem len2 {R} (h : Sp2 R vs H Q E) : vs.length = 2 := by obtain ⟨_, _, rfl, _⟩ := h; rfl
theorem len3 {R} (h : Sp3 R vs H Q E) : vs.length = 3 := by obtain ⟨_, _, _, rfl, _⟩ := h; rfl
theorem len4 {R} (h : Sp4 R vs H Q E) : vs.length = 4 := by obtain ⟨_, _, _, _, rfl, _⟩ := h; rfl
theorem len5 {R} (h : Sp5 R vs H Q E) : vs.length = 5 := by obtain ⟨_, _, _, _, _, rfl, _⟩ := h; rfl
theorem go_sp0 {R} (h : R H Q E) : Sp0 R ([] ++ []) H Q E := ⟨rfl, h⟩
theorem go_sp1 {R} (h : R a H Q E) : Sp1 R ([a] ++ []) H Q E := ⟨a, rfl, h⟩
theorem go_sp2 {R} (h : R a b H Q E) : Sp2 R ([a, b] ++ []) H Q E := ⟨a, b, rfl, h⟩
theorem go_sp3 {R} (h : R a b c H Q E) : Sp3 R ([a, b, c] ++ []) H Q E := ⟨a, b, c, rfl, h⟩
theorem go_sp4 {R} (h : R a b c d H Q E) : Sp4 R ([a, b, c, d] ++ []) H Q E := ⟨a, b, c, d, rfl, h⟩
theorem go_sp5 {R} (h : R a b c d e H Q E) : Sp5 R ([a, b, c, d, e] ++ []) H Q E := ⟨a, b, c, d, e, rfl, h⟩
end
end L2.A
namespace L2.A
open PySem PySem.Spec PyProof.Rows
section
variable {K : PySem.W.Frag} {H : Hp} {Q : VK} {v : V} {σ : St} {D : Ends}
def ForW (J : It) (g : TG) (tb : TS) (D : Ends) (σ : St) (H1 : Hp) : Prop := ∃ W : Nat → Nat → St → Hp → Prop, (∃ m, W 0 m σ H1) ∧ ∀ i m σ H, W i m σ H →
  (J.stop i H ∧ D.nx σ H) ∨ (J.go i H ∧ ∃ N : St → Hp → Prop, (∀ σ' H', N σ' H' → ∃ m', m' < m ∧ W (i + 1) m' σ' H') ∧ ∀ x H', J.yld i H x H' → g x σ H' fun σ2 H2 => tb { D with nx := N, ct := N, bk := D.nx } σ2 H2)
theorem go_for {wi : TI} {g : TG} {tb : TS} (h : wi σ H fun J H1 => ForW J g tb D σ H1) : tFor wi g tb D σ H := h
theorem ForW.list {a : Addr} {xs : List V} {g : TG} {tb : TS} (Pv : Nat → St → Hp → Prop) (h0 : Pv 0 σ H) (hl : ∀ i σ H, i ≤ xs.length → Pv i σ H → SqL K H a xs)
    (hs : ∀ i x σ H, xs[i]? = some x → Pv i σ H → g x σ H fun σ2 H2 => tb { D with nx := Pv (i + 1), ct := Pv (i + 1), bk := D.nx } σ2 H2) (hd : ∀ σ H, Pv xs.length σ H → D.nx σ H) : ForW (Itl K a) g tb D σ H := for_list Pv h0 hl hs hd
theorem ForW.tup {a : Addr} {xs : List V} {g : TG} {tb : TS} (Pv : Nat → St → Hp → Prop) (h0 : Pv 0 σ H) (hl : ∀ i σ H, i ≤ xs.length → Pv i σ H → SqT K H a xs)
    (hs : ∀ i x σ H, xs[i]? = some x → Pv i σ H → g x σ H fun σ2 H2 => tb { D with nx := Pv (i + 1), ct := Pv (i + 1), bk := D.nx } σ2 H2) (hd : ∀ σ H, Pv xs.length σ H → D.nx σ H) : ForW (Itt K a) g tb D σ H := for_tup Pv h0 hl hs hd
theorem ForW.range {lo : Int} {n : Nat} {g : TG} {tb : TS} (Pv : Nat → St → Hp → Prop) (h0 : Pv 0 σ H)
    (hs : ∀ i σ H, i < n → Pv i σ H → g (.int (lo + i)) σ H fun σ2 H2 => tb { D with nx := Pv (i + 1), ct := Pv (i + 1), bk := D.nx } σ2 H2) (hd : ∀ σ H, Pv n σ H → D.nx σ H) : ForW (Itr lo n) g tb D σ H := for_range Pv h0 hs hd
theorem ForW.str {z : Str} {g : TG} {tb : TS} (Pv : Nat → St → Hp → Prop) (h0 : Pv 0 σ H)
    (hs : ∀ i c σ H, z.cps.toList[i]? = some c → Pv i σ H → g (.str ⟨#[c]⟩) σ H fun σ2 H2 => tb { D with nx := Pv (i + 1), ct := Pv (i + 1), bk := D.nx } σ2 H2) (hd : ∀ σ H, Pv z.cps.toList.length σ H → D.nx σ H) : ForW (Its z) g tb D σ H := by
  refine ⟨fun i m σ H => m = z.cps.size - i ∧ i ≤ z.cps.size ∧ Pv i σ H, ⟨z.cps.size, by simp, Nat.zero_le _, h0⟩, ?_⟩
  rintro i m σ H ⟨rfl, hi, p⟩
  by_cases hlt : i < z.cps.size
  · refine .inr ⟨hlt, Pv (i + 1), fun σ' H' p' => ⟨z.cps.size - (i + 1), by omega, rfl, hlt, p'⟩, fun x H' y => ?_⟩
    obtain ⟨e, c, hc, hx⟩ := y
    subst e hx
    exact hs i c σ _ (by simpa using hc) p
  · have e : i = z.cps.size := by omega
    subst e
    exact .inl ⟨Nat.le_refl _, hd σ H (by simpa using p)⟩
theorem go_iX {tl : TE} {R : It → Hp → Prop} (h : tl σ H fun x H1 => IX K x H1 R) : iX K tl σ H R := h
theorem go_iL {a : Addr} {xs : List V} {R : It → Hp → Prop} (hS : SqL K H a xs) (h : R (Itl K a) H) : IX K (.ref a) H R := .inl ⟨a, rfl, ⟨xs, hS⟩, h⟩
theorem go_iT {a : Addr} {xs : List V} {R : It → Hp → Prop} (hS : SqT K H a xs) (h : R (Itt K a) H) : IX K (.ref a) H R := .inr (.inl ⟨a, rfl, ⟨xs, hS⟩, h⟩)
theorem go_iS {z : Str} {R : It → Hp → Prop} (h : R (Its z) H) : IX K (.str z) H R := .inr (.inr ⟨z, rfl, h⟩)
def LcW (J : It) (g : TG) (tt : TT) (te : TE) (vs : List Nat) (σ : St) (H1 : Hp) (Q : VK) : Prop := ∀ D, H1 D = none → ∃ W : Nat → Nat → Hp → Prop, (∃ m, W 0 m (upd H1 D (.lst []))) ∧ ∀ i m H, W i m H →
  (J.stop i H ∧ Q (.ref D) H) ∨ (J.go i H ∧ ∃ Nx : Hp → Prop, (∀ H', Nx H' → ∃ m', m' < m ∧ W (i + 1) m' H') ∧ ∀ x H', J.yld i H x H' → g x (wipe σ vs) H' fun σ2 H2 => wipe σ2 vs = wipe σ vs ∧ tt σ2 H2 fun b H3 =>
    if b = true then te σ2 H3 fun y H4 => ∃ acc, H4 D = some (.lst acc) ∧ acc.length < sizeLine ∧ Nx (upd H4 D (.lst (acc ++ [y]))) else Nx H3)
theorem go_lc {wi : TI} {g : TG} {tt : TT} {te : TE} {vs : List Nat} (h : wi σ H fun J H1 => LcW J g tt te vs σ H1 Q) : tLc wi g tt te vs σ H Q := h
/-- the same relation at other targets -/
structure LcS (g : TG) (tt : TT) (te : TE) (vs : List Nat) (σ : St) (x : V) (H : Hp) (yes : V → Hp → Prop) (no : Hp → Prop) : Prop where
  run : g x (wipe σ vs) H fun σ2 H2 => wipe σ2 vs = wipe σ vs ∧ tt σ2 H2 fun b H3 => if b = true then te σ2 H3 yes else no H3
/-- GENERAL: over a list; R i ys H' what holds of the items made so far; D is the new list's own place -/
theorem LcW.list {a : Addr} {xs : List V} {H1 : Hp} {g : TG} {tt : TT} {te : TE} {vs : List Nat} (R : Addr → Nat → List V → Hp → Prop) (hz : xs.length ≤ 100000) (hS : SqL K H1 a xs) (h0 : ∀ D, H1 D = none → R D 0 [] (upd H1 D (.lst [])))
    (hs : ∀ D i x ys H', H1 D = none → xs[i]? = some x → ys.length ≤ i → R D i ys H' → Same H1 H' → H' D = some (.lst ys) → ∀ (yes : V → Hp → Prop) (no : Hp → Prop),
      (∀ y H'', Same H' H'' → R D (i + 1) (ys ++ [y]) (upd H'' D (.lst (ys ++ [y]))) → yes y H'') → (∀ H'', Same H' H'' → R D (i + 1) ys H'' → no H'') →
      g x (wipe σ vs) H' fun σ2 H2 => wipe σ2 vs = wipe σ vs ∧ tt σ2 H2 fun b H3 => if b = true then te σ2 H3 yes else no H3)
    (hd : ∀ D ys H', H1 D = none → Same H1 H' → H' D = some (.lst ys) → ys.length ≤ xs.length → R D xs.length ys H' → Q (.ref D) H') : LcW (Itl K a) g tt te vs σ H1 Q := by
  intro D hD
  refine lc_list (xs := xs) (fun i H' => Same H1 H' ∧ ∃ ys, H' D = some (.lst ys) ∧ ys.length ≤ i ∧ R D i ys H') ⟨same_new hD, [], upd_same, Nat.le_refl _, h0 D hD⟩ (fun i H' _ ⟨s, _⟩ => s.seq hS) (fun i x H' hi ⟨s, ys, e, hl, r⟩ => ?_) fun H' ⟨s, ys, e, hl, r⟩ => hd D ys H' hD s e hl r
  have hil : i < xs.length := (List.getElem?_eq_some_iff.mp hi).1
  refine hs D i x ys H' hD hi hl r s e _ _ (fun y H'' s2 r2 => ⟨ys, s2 _ _ e, ?_, same_mut (s.trans s2) hD, ys ++ [y], upd_same, by rw [List.length_append]; show ys.length + 1 ≤ _; omega, r2⟩) fun H'' s2 r2 => ⟨s.trans s2, ys, s2 _ _ e, by omega, r2⟩
  exact Nat.lt_of_le_of_lt hl (Nat.lt_of_lt_of_le hil (Nat.le_trans hz (by decide)))
theorem LcW.tup {a : Addr} {xs : List V} {H1 : Hp} {g : TG} {tt : TT} {te : TE} {vs : List Nat} (R : Addr → Nat → List V → Hp → Prop) (hz : xs.length ≤ 100000) (hS : SqT K H1 a xs) (h0 : ∀ D, H1 D = none → R D 0 [] (upd H1 D (.lst [])))
    (hs : ∀ D i x ys H', H1 D = none → xs[i]? = some x → ys.length ≤ i → R D i ys H' → Same H1 H' → H' D = some (.lst ys) → ∀ (yes : V → Hp → Prop) (no : Hp → Prop),
      (∀ y H'', Same H' H'' → R D (i + 1) (ys ++ [y]) (upd H'' D (.lst (ys ++ [y]))) → yes y H'') → (∀ H'', Same H' H'' → R D (i + 1) ys H'' → no H'') →
      g x (wipe σ vs) H' fun σ2 H2 => wipe σ2 vs = wipe σ vs ∧ tt σ2 H2 fun b H3 => if b = true then te σ2 H3 yes else no H3)
    (hd : ∀ D ys H', H1 D = none → Same H1 H' → H' D = some (.lst ys) → ys.length ≤ xs.length → R D xs.length ys H' → Q (.ref D) H') : LcW (Itt K a) g tt te vs σ H1 Q := by
  intro D hD
  have seqT : ∀ {H' : Hp}, Same H1 H' → SqT K H' a xs := fun {H'} s => by
    rcases hS with (h | ⟨o, h⟩) | h
    · exact .inl (.inl (s _ _ h))
    · exact .inl (.inr ⟨o, s _ _ h⟩)
    · exact .inr h
  refine lc_tup (xs := xs) (fun i H' => Same H1 H' ∧ ∃ ys, H' D = some (.lst ys) ∧ ys.length ≤ i ∧ R D i ys H') ⟨same_new hD, [], upd_same, Nat.le_refl _, h0 D hD⟩ (fun i H' _ ⟨s, _⟩ => seqT s) (fun i x H' hi ⟨s, ys, e, hl, r⟩ => ?_) fun H' ⟨s, ys, e, hl, r⟩ => hd D ys H' hD s e hl r
  have hil : i < xs.length := (List.getElem?_eq_some_iff.mp hi).1
  refine hs D i x ys H' hD hi hl r s e _ _ (fun y H'' s2 r2 => ⟨ys, s2 _ _ e, ?_, same_mut (s.trans s2) hD, ys ++ [y], upd_same, by rw [List.length_append]; show ys.length + 1 ≤ _; omega, r2⟩) fun H'' s2 r2 => ⟨s.trans s2, ys, s2 _ _ e, by omega, r2⟩
  exact Nat.lt_of_le_of_lt hl (Nat.lt_of_lt_of_le hil (Nat.le_trans hz (by decide)))
/-- elements are plain values, no test -/
theorem LcW.listV {a : Addr} {xs : List V} {H1 : Hp} {g : TG} {te : TE} {vs : List Nat} (out : Nat → V) (hz : xs.length ≤ 100000) (hS : SqL K H1 a xs)
    (hs : ∀ i x H', xs[i]? = some x → Same H1 H' → ∀ Q' : VK, (∀ H'', Same H' H'' → Q' (out i) H'') → g x (wipe σ vs) H' fun σ2 H2 => wipe σ2 vs = wipe σ vs ∧ te σ2 H2 Q')
    (mono : ∀ (x : V) (σ : St) (H : Hp) (Q Q' : St → Hp → Prop), (∀ σ H, Q σ H → Q' σ H) → g x σ H Q → g x σ H Q')
    (hd : ∀ D H', H1 D = none → Same H1 H' → H' D = some (.lst ((List.range xs.length).map out)) → Q (.ref D) H') : LcW (Itl K a) g tYes te vs σ H1 Q := by
  refine LcW.list (fun D i ys H' => ys = (List.range i).map out) hz hS (fun _ _ => rfl) (fun D i x ys H' hD hi hl r s e yes no hy hn => ?_) fun D ys H' hD s e _ r => hd D H' hD s (by rw [e, r])
  refine mono x _ _ _ _ (fun σ2 H2 q => q) (hs i x H' hi s yes fun H'' s2 => hy _ _ s2 ?_)
  rw [r, List.range_succ, List.map_append]
  rfl
theorem gname_mono {i : Nat} (x : V) (σ : St) (H : Hp) (Q Q' : St → Hp → Prop) (h : ∀ σ H, Q σ H → Q' σ H) (q : gName i x σ H Q) : gName i x σ H Q' := h _ _ q
theorem go_all {l : Addr} {bs : List Bool} (hS : SqL K H l (bs.map V.bl)) (h : Q (.bl (bs.all id)) H) : rAll K [.ref l] H Q := ⟨l, bs, rfl, hS, h⟩
theorem go_any {l : Addr} {bs : List Bool} (hS : SqL K H l (bs.map V.bl)) (h : Q (.bl (bs.any id)) H) : rAny K [.ref l] H Q := ⟨l, bs, rfl, hS, h⟩
theorem go_sum {l : Addr} {ns : List Int} (hS : SqL K H l (ns.map V.int)) (h : Q (.int ns.sum) H) : rSum K [.ref l] H Q := ⟨l, ns, rfl, hS, h⟩
theorem go_yes {QB : Bool → Hp → Prop} (h : QB true H) : tYes σ H QB := h
end
theorem range_map_const {n : Nat} {v : V} : (List.range n).map (fun _ => v) = List.replicate n v := by
  induction n with
  | zero => rfl
  | succ n ih => rw [List.range_succ, List.map_append, ih, List.replicate_succ'] <;> rfl
theorem all_true {n : Nat} : (List.replicate n true).all id = true := by simp
theorem szl {n : Nat} (h : n ≤ 100000) : n ≤ sizeLine := Nat.le_trans h (by decide)
theorem bl_ok {b : Bool} {Q : VK} {H : Hp} (e : b = true) (h : Q (.bl true) H) : Q (.bl b) H := by rw [e]; exact h
end L2.A
namespace L2.A
open PySem PySem.Spec PyProof.Rows
theorem ret_V {v v' : V} {Q : VK} {H : Hp} (e : v' = v) (h : Q v' H) : Q v H := by rw [← e]; exact h
theorem dec_int {i j : Int} : decide (V.int i = V.int j) = decide (i = j) := by simp
theorem dec_str {i j : Str} : decide (V.str i = V.str j) = decide (i = j) := by simp
theorem dec_bl {i j : Bool} : decide (V.bl i = V.bl j) = decide (i = j) := by simp
/-- the head and the items of a list of whole numbers -/
theorem int_at {ns : List Int} {i : Nat} {x : V} (h : (ns.map V.int)[i]? = some x) : ∃ z, x = V.int z ∧ ns[i]? = some z := by
  rw [List.getElem?_map] at h
  cases e : ns[i]? with
  | none => rw [e] at h; cases h
  | some z => rw [e] at h; exact ⟨z, (Option.some.inj h).symm, rfl⟩
theorem iteS_bl {b : Bool} {Q : VK} {H : Hp} {v1 v2 : V} (h1 : b = true → Q v1 H) (h2 : b = false → Q v2 H) : if b = true then Q v1 H else Q v2 H := if2 h1 h2
end L2.A
namespace L2.A
open PySem PySem.Spec PyProof.Rows
def RN1 (vs : List V) (H1 : Hp) (R : It → Hp → Prop) : Prop := ∃ j : Int, vs = [.int j] ∧ -(2 ^ 62) ≤ j ∧ j < 2 ^ 62 ∧ R (Itr 0 j.toNat) H1
def RN2 (vs : List V) (H1 : Hp) (R : It → Hp → Prop) : Prop := ∃ i j : Int, vs = [.int i, .int j] ∧ (-(2 ^ 62) ≤ i ∧ i < 2 ^ 62 ∧ -(2 ^ 62) ≤ j ∧ j < 2 ^ 62) ∧ R (Itr i (j - i).toNat) H1
theorem go_rng1 {ta : TA} {σ : St} {H : Hp} {R : It → Hp → Prop} (h : ta σ H fun vs H1 => RN1 vs H1 R) : iRng1 ta σ H R := h
theorem go_rng2 {ta : TA} {σ : St} {H : Hp} {R : It → Hp → Prop} (h : ta σ H fun vs H1 => RN2 vs H1 R) : iRng2 ta σ H R := h
theorem go_rn1 {j : Int} {H : Hp} {R : It → Hp → Prop} (h1 : -100000 ≤ j ∧ j ≤ 100000) (h : R (Itr 0 j.toNat) H) : RN1 [.int j] H R := ⟨j, rfl, by omega, by omega, h⟩
theorem go_rn2 {i j : Int} {H : Hp} {R : It → Hp → Prop} (h1 : -100000 ≤ i ∧ i ≤ 100000 ∧ -100000 ≤ j ∧ j ≤ 100000) (h : R (Itr i (j - i).toNat) H) : RN2 [.int i, .int j] H R := ⟨i, j, rfl, ⟨by omega, by omega, by omega, by omega⟩, h⟩
/-- an item of a written list at a drawn place -/
theorem at_some {α : Type} {xs : List α} {r : Int} (h0 : 0 ≤ r) (h1 : r < xs.length) : ∃ v, atI xs r = some v ∧ v ∈ xs := by
  obtain ⟨j, rfl⟩ : ∃ j : Nat, r = (j : Int) := ⟨r.toNat, by omega⟩
  have hj : j < xs.length := by omega
  exact ⟨xs[j], atI_nat (List.getElem?_eq_getElem hj), List.getElem_mem hj⟩
theorem menuS {L : List Str} {r : Int} (h0 : 0 ≤ r) (h1 : r < L.length) : ∃ k, atI (L.map V.str) r = some (.str k) ∧ k ∈ L := by
  obtain ⟨v, e, m⟩ := at_some (xs := L.map V.str) h0 (by rw [List.length_map]; exact h1)
  obtain ⟨k, hk, rfl⟩ := List.mem_map.mp m
  exact ⟨k, e, hk⟩
theorem menuI {L : List Int} {r : Int} (h0 : 0 ≤ r) (h1 : r < L.length) : ∃ k, atI (L.map V.int) r = some (.int k) ∧ k ∈ L := by
  obtain ⟨v, e, m⟩ := at_some (xs := L.map V.int) h0 (by rw [List.length_map]; exact h1)
  obtain ⟨k, hk, rfl⟩ := List.mem_map.mp m
  exact ⟨k, e, hk⟩
/-- a sign of a written text at a drawn place -/
theorem sign_some {z : Str} {r : Int} (h0 : 0 ≤ r) (h1 : r < z.cps.toList.length) : ∃ c, atI z.cps.toList r = some c ∧ c ∈ z.cps.toList := at_some h0 h1
theorem len_app (a b : Str) : (a ++ b).length = a.length + b.length := by
  have h := congrArg List.length (TL.tl_append a b)
  rw [List.length_append, ← TL.len_tl, ← TL.len_tl, ← TL.len_tl] at h
  exact h
theorem len_one {c : Nat} : (⟨#[c]⟩ : Str).length = 1 := rfl
end L2.A

namespace L2.A
open PySem PySem.Spec PyProof.Rows
section
variable {σ : St} {H : Hp} {Q : VK} {QB : Bool → Hp → Prop} {tt tu : TT} {ta tb : TE} {c1 c2 : Bool} {v1 v2 : V}
/-! ### and, or whose parts lay nothing: one value, no two ways -/
theorem go_andP (h1 : ∀ QB' : Bool → Hp → Prop, QB' c1 H → tt σ H QB') (h2 : ∀ QB' : Bool → Hp → Prop, QB' c2 H → tu σ H QB') (h : QB (c1 && c2) H) : tAnd tt tu σ H QB := h1 _ (by
  cases c1 with
  | true => exact iteT (h2 _ h)
  | false => exact iteF h)
theorem go_orP (h1 : ∀ QB' : Bool → Hp → Prop, QB' c1 H → tt σ H QB') (h2 : ∀ QB' : Bool → Hp → Prop, QB' c2 H → tu σ H QB') (h : QB (c1 || c2) H) : tOr tt tu σ H QB := h1 _ (by
  cases c1 with
  | true => exact iteT h
  | false => exact iteF (h2 _ h))
theorem go_andVP (h1 : ∀ Q' : VK, Q' (.bl c1) H → ta σ H Q') (h2 : ∀ Q' : VK, Q' (.bl c2) H → tb σ H Q') (h : Q (.bl (c1 && c2)) H) : tAndV ta tb σ H Q := h1 _ ⟨c1, rfl, by
  cases c1 with
  | true => exact iteT (h2 _ h)
  | false => exact iteF h⟩
theorem go_orVP (h1 : ∀ Q' : VK, Q' (.bl c1) H → ta σ H Q') (h2 : ∀ Q' : VK, Q' (.bl c2) H → tb σ H Q') (h : Q (.bl (c1 || c2)) H) : tOrV ta tb σ H Q := h1 _ ⟨c1, rfl, by
  cases c1 with
  | true => exact iteT h
  | false => exact iteF (h2 _ h)⟩
theorem go_ifxP (h1 : ∀ QB' : Bool → Hp → Prop, QB' c1 H → tt σ H QB') (h2 : ∀ Q' : VK, Q' v1 H → ta σ H Q') (h3 : ∀ Q' : VK, Q' v2 H → tb σ H Q') (h : Q (if c1 = true then v1 else v2) H) : tIf tt ta tb σ H Q := h1 _ (by
  cases c1 with
  | true => exact iteT (h2 _ h)
  | false => exact iteF (h3 _ h))
theorem and_join (h2 : ∀ QB' : Bool → Hp → Prop, QB' c2 H → tu σ H QB') (h : QB (c1 && c2) H) : if c1 = true then tu σ H QB else QB false H := by
  cases c1 with
  | true => exact iteT (h2 _ h)
  | false => exact iteF h
theorem or_join (h2 : ∀ QB' : Bool → Hp → Prop, QB' c2 H → tu σ H QB') (h : QB (c1 || c2) H) : if c1 = true then QB true H else tu σ H QB := by
  cases c1 with
  | true => exact iteT h
  | false => exact iteF (h2 _ h)
theorem andV_join (h2 : ∀ Q' : VK, Q' (.bl c2) H → tb σ H Q') (h : Q (.bl (c1 && c2)) H) : if c1 = true then tb σ H Q else Q (.bl false) H := by
  cases c1 with
  | true => exact iteT (h2 _ h)
  | false => exact iteF h
theorem orV_join (h2 : ∀ Q' : VK, Q' (.bl c2) H → tb σ H Q') (h : Q (.bl (c1 || c2)) H) : if c1 = true then Q (.bl true) H else tb σ H Q := by
  cases c1 with
  | true => exact iteT h
  | false => exact iteF (h2 _ h)
/-- the same where the parts may lay new objects -/
theorem go_andS (h1 : ∀ QB' : Bool → Hp → Prop, (∀ H', Same H H' → QB' c1 H') → tt σ H QB') (h2 : ∀ H1, Same H H1 → ∀ QB' : Bool → Hp → Prop, (∀ H', Same H1 H' → QB' c2 H') → tu σ H1 QB') (h : ∀ H', Same H H' → QB (c1 && c2) H') : tAnd tt tu σ H QB := h1 _ fun H1 s1 => by
  cases c1 with
  | true => exact iteT (h2 _ s1 _ fun H2 s2 => h _ (s1.trans s2))
  | false => exact iteF (h _ s1)
theorem go_orS (h1 : ∀ QB' : Bool → Hp → Prop, (∀ H', Same H H' → QB' c1 H') → tt σ H QB') (h2 : ∀ H1, Same H H1 → ∀ QB' : Bool → Hp → Prop, (∀ H', Same H1 H' → QB' c2 H') → tu σ H1 QB') (h : ∀ H', Same H H' → QB (c1 || c2) H') : tOr tt tu σ H QB := h1 _ fun H1 s1 => by
  cases c1 with
  | true => exact iteT (h _ s1)
  | false => exact iteF (h2 _ s1 _ fun H2 s2 => h _ (s1.trans s2))
end
end L2.A

namespace L2.A
open PySem PySem.Spec PyProof.Rows
/-- a statement, then the rest, with a word between them: what follows is shown once, from Mid -/
def tCut (t u : TS) : TS := fun D σ H => ∃ Mid : St → Hp → Prop, t { D with nx := Mid } σ H ∧ ∀ σ' H', Mid σ' H' → u D σ' H'
theorem pss_cut {X : Cx} {st : Stmt} {rest : List Stmt} {t u : TS} (h1 : PS X st t) (h2 : PSs X rest u) : PSs X (st :: rest) (tCut t u) := by
  refine ⟨fun pins s σ H D I h => ?_⟩
  obtain ⟨Mid, hm, hu⟩ := h
  refine wpAny_execs_cons (thn (h1.run pins s σ H { D with nx := Mid } I hm) fun f s1 q => ?_)
  cases f with
  | next =>
    obtain ⟨σ', H', I', q⟩ := q
    exact h2.run pins s1 σ' H' D I' (hu σ' H' q)
  | ret v => exact q
  | brk => exact q
  | cont => exact q
theorem go_cut {t u : TS} {D : Ends} {σ : St} {H : Hp} (Mid : St → Hp → Prop) (h1 : t { D with nx := Mid } σ H) (h2 : ∀ σ' H', Mid σ' H' → u D σ' H') : tCut t u D σ H := ⟨Mid, h1, h2⟩
end L2.A

namespace L2.A
open PySem PySem.Spec PyProof.Rows
theorem seqT_same {K : PySem.W.Frag} {H H' : Hp} {p : Addr} {xs : List V} (h : SqT K H p xs) (s : Same H H') : SqT K H' p xs := by
  rcases h with (h | ⟨o, h⟩) | h
  · exact .inl (.inl (s _ _ h))
  · exact .inl (.inr ⟨o, s _ _ h⟩)
  · exact .inr h
theorem seqL_same {K : PySem.W.Frag} {H H' : Hp} {p : Addr} {xs : List V} (h : SqL K H p xs) (s : Same H H') : SqL K H' p xs := s.seq h
/-- == of scalars in short -/
abbrev eI (a b : Int) : Bool := decide (V.int a = V.int b)
abbrev eS (a b : Str) : Bool := decide (V.str a = V.str b)
theorem eI_eq (a b : Int) : eI a b = decide (a = b) := by simp
theorem eS_eq (a b : Str) : eS a b = decide (a = b) := by simp
end L2.A

namespace L2.A
open PySem PySem.Spec PyProof.Rows
section
variable {σ : St} {H : Hp} {Q : VK}
/-! ### displays of dicts -/
def kvOf (p : V × V) : Key × V := (match p.1 with | .str x => Sum.inr x | .int i => Sum.inl i | _ => Sum.inl 0, p.2)
def DispK (p : Addr) (ps : List (V × V)) (H2 : Hp) (Q : VK) : Prop := H2 p = some (.dK []) ∧ ∃ kvs : List (Key × V), ps = kvs.map (fun kv => (kV kv.1, kv.2)) ∧ kvs.length ≤ 15 ∧ Q (.ref p) (upd H2 p (.dK (mergeK [] kvs)))
def DispN (trs : List (TE × TE)) (σ : St) (H : Hp) (Q : VK) : Prop := ∀ p, H p = none → tPairs trs σ (upd H p (.dK [])) fun ps H2 => DispK p ps H2 Q
theorem go_disp {trs : List (TE × TE)} (h : DispN trs σ H Q) : tDisp trs σ H Q := h
theorem go_pairs {tk tv : TE} {r : List (TE × TE)} {R : List (V × V) → Hp → Prop} (h : tk σ H fun k H1 => tv σ H1 fun v H2 => tPairs r σ H2 fun ps H3 => R ((k, v) :: ps) H3) : tPairs ((tk, tv) :: r) σ H R := h
theorem go_pairs0 {R : List (V × V) → Hp → Prop} (h : R [] H) : tPairs [] σ H R := h
theorem go_dispK {p : Addr} {ps : List (V × V)} (h0 : H p = some (.dK [])) (e : ps = (ps.map kvOf).map (fun kv => (kV kv.1, kv.2))) (hl : Nat.ble (ps.map kvOf).length 15 = true) (h : Q (.ref p) (upd H p (.dK (mergeK [] (ps.map kvOf))))) : DispK p ps H Q :=
  ⟨h0, _, e, Nat.le_of_ble_eq_true hl, h⟩
end
end L2.A

namespace L2.A
open PySem PySem.Spec PyProof.Rows
theorem upd_free {H : Hp} {a b : Addr} {o : HO} (h : upd H a o b = none) : H b = none := by
  by_cases e : b = a
  · subst e; rw [upd_same] at h; cases h
  · rw [upd_ne e] at h; exact h
end L2.A

namespace L2.A
open PySem PySem.Spec PyProof.Rows
/-- a statement that lays nothing: the slots behind it told -/
theorem go_cutP {t u : TS} {D : Ends} {σ : St} {H : Hp} (σ1 : St) (h1 : t { D with nx := fun σ' H' => σ' = σ1 ∧ H' = H } σ H) (h2 : u D σ1 H) : tCut t u D σ H := ⟨_, h1, fun _ _ ⟨e1, e2⟩ => by rw [e1, e2]; exact h2⟩
/-- .. that may lay new objects -/
theorem go_cutS {t u : TS} {D : Ends} {σ : St} {H : Hp} (σ1 : St) (h1 : t { D with nx := fun σ' H' => σ' = σ1 ∧ Same H H' } σ H) (h2 : ∀ H', Same H H' → u D σ1 H') : tCut t u D σ H := ⟨_, h1, fun _ _ ⟨e1, e2⟩ => by rw [e1]; exact h2 _ e2⟩
end L2.A

namespace L2.A
open PySem PySem.Spec PyProof.Rows
section
variable {X : Cx} {K : PySem.W.Frag} {σ : St} {H : Hp} {Q : VK}
/-! ### slices -/
def PartI (x : V) (H : Hp) (R : Option Int → Hp → Prop) : Prop := ∃ i, x = .int i ∧ R (some i) H
theorem go_sl {r : V → Option Int → Option Int → Hp → VK → Prop} {te : TE} {tl th : TO} (h : te σ H fun x H1 => tl σ H1 fun l H2 => th σ H2 fun u H3 => r x l u H3 Q) : tSl r te tl th σ H Q := h
theorem go_nopart {R : Option Int → Hp → Prop} (h : R none H) : tNoPart σ H R := h
theorem go_part {t : TE} {R : Option Int → Hp → Prop} (h : t σ H fun x H1 => PartI x H1 R) : tPart t σ H R := h
theorem go_partI {i : Int} {R : Option Int → Hp → Prop} (h : R (some i) H) : PartI (.int i) H R := ⟨i, rfl, h⟩
theorem go_slT {p : Addr} {xs ys : List V} {lo hi : Option Int} (hp : SqT K H p xs) (e : cutV xs lo hi = ys) (n : (Nat.beq (HT.sIx xs.length 0 lo) 0 && Nat.beq (HT.sIx xs.length xs.length hi) xs.length) = false) (h : NewO (.tup ys) H Q) : rSlX K (.ref p) lo hi H Q :=
  .inr (.inl ⟨p, xs, rfl, hp, fun ⟨z1, z2⟩ => by rw [z1, z2] at n; simp at n, by rw [e]; exact h⟩)
theorem go_slL {p : Addr} {xs ys : List V} {lo hi : Option Int} (hp : SqL K H p xs) (e : cutV xs lo hi = ys) (h : NewO (.lst ys) H Q) : rSlX K (.ref p) lo hi H Q := .inl ⟨p, xs, rfl, hp, by rw [e]; exact h⟩
theorem go_slS {z : Str} {lo hi : Option Int} (hz : z.length ≤ sizeLine) (h : Q (.str (cutS z lo hi)) H) : rSlX K (.str z) lo hi H Q := .inr (.inr ⟨z, rfl, hz, h⟩)
/-! ### min, max of three -/
def rMn3 : List V → Hp → VK → Prop := fun xs H Q => ∃ i j k : Int, xs = [.int i, .int j, .int k] ∧ Q (.int (min i (min j k))) H
def rMx3 : List V → Hp → VK → Prop := fun xs H Q => ∃ i j k : Int, xs = [.int i, .int j, .int k] ∧ Q (.int (max i (max j k))) H
theorem vals3 {x y z : V} {us : List Value} (r : Vals [x, y, z] us) : ∃ u v w', us = [u, v, w'] ∧ RelV x u ∧ RelV y v ∧ RelV z w' := by
  cases r with
  | cons r1 r2 =>
    obtain ⟨u, v, rfl, a, b⟩ := vals2 r2
    exact ⟨_, _, _, rfl, r1, a, b⟩
theorem call_mn3 (hc : X.calm = true) : CallR X (.builtin "min") rMn3 := by
  intro pins s σ H xs us Q I r h
  obtain ⟨i, j, k, rfl, q⟩ := h
  obtain ⟨u, v, w', rfl, ⟨t, rfl⟩, ⟨t', rfl⟩, ⟨t2, rfl⟩⟩ := vals3 r
  refine min_three_ints (I.ok.hd hc) fun h' tk hk => ⟨_, H, I.kept hk, ?_, q⟩
  by_cases h1 : j < i
  · by_cases h2 : k < j
    · rw [if_pos h1, if_pos h2]; exact ⟨_, by rw [show min i (min j k) = k by omega]⟩
    · rw [if_pos h1, if_neg h2]; exact ⟨_, by rw [show min i (min j k) = j by omega]⟩
  · by_cases h2 : k < i
    · rw [if_neg h1, if_pos h2]; exact ⟨_, by rw [show min i (min j k) = k by omega]⟩
    · rw [if_neg h1, if_neg h2]; exact ⟨_, by rw [show min i (min j k) = i by omega]⟩
theorem call_mx3 (hc : X.calm = true) : CallR X (.builtin "max") rMx3 := by
  intro pins s σ H xs us Q I r h
  obtain ⟨i, j, k, rfl, q⟩ := h
  obtain ⟨u, v, w', rfl, ⟨t, rfl⟩, ⟨t', rfl⟩, ⟨t2, rfl⟩⟩ := vals3 r
  refine max_three_ints (I.ok.hd hc) fun h' tk hk => ⟨_, H, I.kept hk, ?_, q⟩
  by_cases h1 : j > i
  · by_cases h2 : k > j
    · rw [if_pos h1, if_pos h2]; exact ⟨_, by rw [show max i (max j k) = k by omega]⟩
    · rw [if_pos h1, if_neg h2]; exact ⟨_, by rw [show max i (max j k) = j by omega]⟩
  · by_cases h2 : k > i
    · rw [if_neg h1, if_pos h2]; exact ⟨_, by rw [show max i (max j k) = k by omega]⟩
    · rw [if_neg h1, if_neg h2]; exact ⟨_, by rw [show max i (max j k) = i by omega]⟩
theorem go_min3 {a b c : Int} (h : Q (.int (min a (min b c))) H) : rMn3 [V.int a, V.int b, V.int c] H Q := ⟨a, b, c, rfl, h⟩
theorem go_max3 {a b c : Int} (h : Q (.int (max a (max b c))) H) : rMx3 [V.int a, V.int b, V.int c] H Q := ⟨a, b, c, rfl, h⟩
end
end L2.A

namespace L2.A
open PySem PySem.Spec PyProof.Rows
theorem ge2 {H H' : Hp} {a : Addr} {o : HO} (h : H a = some o) (s : Same H H') : H' a = some o := s a o h
end L2.A


namespace L2.A
open PySem PySem.Spec PyProof.Rows
/-! ### == of data at any depth -/
mutual
theorem Dp.same {K : PySem.W.Frag} {H H' : Hp} (s : Same H H') : ∀ (d : PyData) (v : V), Dp K H v d → Dp K H' v d
  | .none, _, h => by cases h; exact .non
  | .bool b, _, h => by cases h; exact .bl b
  | .int i, _, h => by cases h; exact .int i
  | .str x, _, h => by cases h; exact .str x
  | .list ds, _, h => by
    cases h with
    | lst hs ha => exact .lst (s.seq hs) (Dp.sameAll s ds _ ha)
  | .tuple ds, _, h => by
    cases h with
    | tup hs ha => exact .tup (seqT_same hs s) (Dp.sameAll s ds _ ha)
  | .dict _, _, h => by cases h
theorem Dp.sameAll {K : PySem.W.Frag} {H H' : Hp} (s : Same H H') : ∀ (ds : List PyData) (vs : List V), DpAll K H vs ds → DpAll K H' vs ds
  | [], _, h => by cases h; exact .nil
  | d :: ds, _, h => by
    cases h with
    | cons h1 h2 => exact .cons (Dp.same s d _ h1) (Dp.sameAll s ds _ h2)
end
/-- the datum of a scalar -/
def dV : V → PyData
  | .bl b => .bool b
  | .int i => .int i
  | .str x => .str x
  | _ => .none
theorem Dp.flat {K : PySem.W.Frag} {H : Hp} : ∀ {v : V}, flatV v = true → Dp K H v (dV v)
  | .non, _ => .non
  | .bl b, _ => .bl b
  | .int i, _ => .int i
  | .str x, _ => .str x
theorem DpAll.flat {K : PySem.W.Frag} {H : Hp} : ∀ {vs : List V}, vs.all flatV = true → DpAll K H vs (vs.map dV)
  | [], _ => .nil
  | v :: vs, h => by
    have h' : flatV v = true ∧ vs.all flatV = true := by simpa using h
    exact .cons (Dp.flat h'.1) (DpAll.flat h'.2)
/-- a scalar whose text may be laid -/
def okV : V → Bool
  | .non | .bl _ | .int _ => true
  | .str x => PySem.PyData.strOk x
  | _ => false
theorem okV_flat {v : V} (h : okV v = true) : flatV v = true := by cases v <;> simp_all [okV, flatV]
theorem okV_all {vs : List V} (h : vs.all okV = true) : vs.all flatV = true := by
  rw [List.all_eq_true] at h ⊢
  exact fun v m => okV_flat (h v m)
theorem lay_flat {v : V} (h : okV v = true) : (dV v).canLay0 = true := by cases v <;> simp_all [okV, dV, PyData.canLay0]
theorem layAll_flat : ∀ {vs : List V}, vs.all okV = true → PyData.canLayAll0 (vs.map dV) = true
  | [], _ => rfl
  | v :: vs, h => by
    have h' : okV v = true ∧ vs.all okV = true := by simpa using h
    simp only [List.map_cons, PyData.canLayAll0, lay_flat h'.1, layAll_flat h'.2, Bool.and_self]
theorem depth_flat {v : V} : (dV v).depth = 0 := by cases v <;> simp [dV, PyData.depth]
theorem depthAll_flat : ∀ {vs : List V}, PyData.depthAll (vs.map dV) = 0
  | [] => rfl
  | v :: vs => by simp only [List.map_cons, PyData.depthAll, depth_flat, depthAll_flat]; rfl
theorem shaped_tup {vs : List V} (h : vs.all okV = true) : SeqAt.shaped (.tuple (vs.map dV)) = true := by
  simp only [SeqAt.shaped, PyData.canLay0, layAll_flat h, PyData.depth, depthAll_flat]; rfl
theorem shaped_lst {vs : List V} (h : vs.all okV = true) : SeqAt.shaped (.list (vs.map dV)) = true := by
  simp only [SeqAt.shaped, PyData.canLay0, layAll_flat h, PyData.depth, depthAll_flat]; rfl
/-- == of rows of scalars -/
def eqVs (xs ys : List V) : Bool := PyData.eqvAll (xs.map dV) (ys.map dV)
theorem eqVs_refl {vs : List V} (h : vs.all okV = true) : eqVs vs vs = true := SeqAt.eqvAll_refl _ (layAll_flat h)
section
variable {K : PySem.W.Frag} {H : Hp} {Q : VK}
theorem go_eqT {p q : Addr} {xs ys : List V} (hp : SqT K H p xs) (hq : SqT K H q ys) (ox : xs.all okV = true) (oy : ys.all okV = true) (h : Q (.bl (eqVs xs ys)) H) : rEqX K (.ref p) (.ref q) H Q :=
  .inr ⟨_, _, .tup hp (DpAll.flat (okV_all ox)), .tup hq (DpAll.flat (okV_all oy)), shaped_tup ox, shaped_tup oy, by rw [PyData.eqv]; exact h⟩
theorem go_neT {p q : Addr} {xs ys : List V} (hp : SqT K H p xs) (hq : SqT K H q ys) (ox : xs.all okV = true) (oy : ys.all okV = true) (h : Q (.bl (!eqVs xs ys)) H) : rNeX K (.ref p) (.ref q) H Q :=
  .inr ⟨_, _, .tup hp (DpAll.flat (okV_all ox)), .tup hq (DpAll.flat (okV_all oy)), shaped_tup ox, shaped_tup oy, by rw [PyData.eqv]; exact h⟩
theorem go_eqL {p q : Addr} {xs ys : List V} (hp : SqL K H p xs) (hq : SqL K H q ys) (ox : xs.all okV = true) (oy : ys.all okV = true) (h : Q (.bl (eqVs xs ys)) H) : rEqX K (.ref p) (.ref q) H Q :=
  .inr ⟨_, _, .lst hp (DpAll.flat (okV_all ox)), .lst hq (DpAll.flat (okV_all oy)), shaped_lst ox, shaped_lst oy, by rw [PyData.eqv]; exact h⟩
theorem go_neL {p q : Addr} {xs ys : List V} (hp : SqL K H p xs) (hq : SqL K H q ys) (ox : xs.all okV = true) (oy : ys.all okV = true) (h : Q (.bl (!eqVs xs ys)) H) : rNeX K (.ref p) (.ref q) H Q :=
  .inr ⟨_, _, .lst hp (DpAll.flat (okV_all ox)), .lst hq (DpAll.flat (okV_all oy)), shaped_lst ox, shaped_lst oy, by rw [PyData.eqv]; exact h⟩
end
end L2.A


namespace L2.A
open PySem PySem.Spec PyProof.Rows
section
variable {X : Cx} {K : PySem.W.Frag}
/-! ### the same rules with the fragment named (within a comprehension's own context) -/
theorem op_addK (hK : X.K = K) : OpR X (binaryOp .Add) (rAddX K) := hK ▸ op_addX
theorem op_eqK (hK : X.K = K) (hu : X.A.units + 64 < cLine) : OpR X (compareOp .Eq) (rEqX K) := hK ▸ op_eqX hu
theorem op_neK (hK : X.K = K) (hu : X.A.units + 64 < cLine) : OpR X (compareOp .NotEq) (rNeX K) := hK ▸ op_neX hu
theorem op_inK (hK : X.K = K) (hu : X.A.units + 1 < cLine) : OpR X (compareOp .In) (rInX K) := hK ▸ op_inX hu
theorem op_notInK (hK : X.K = K) (hu : X.A.units + 1 < cLine) : OpR X (compareOp .NotIn) (rNotInX K) := hK ▸ op_notInX hu
theorem op_isK' (hK : X.K = K) : OpR X (compareOp .Is) (rIsX K) := hK ▸ op_isX
theorem op_isNotK' (hK : X.K = K) : OpR X (compareOp .IsNot) (rIsNotX K) := hK ▸ op_isNotX
theorem ix_K (hK : X.K = K) (hu : X.A.units + 1 < cLine) : IxR X (rIxX K) := hK ▸ ix_X hu
theorem sl_K (hK : X.K = K) : SlR X (rSlX K) := hK ▸ sl_X
theorem call_lenK (hK : X.K = K) : CallR X (.builtin "len") (rLenX K) := hK ▸ call_lenX
theorem call_isiK (hK : X.K = K) : CallR X (.builtin "isinstance") (rIsiX K) := hK ▸ call_isiX
theorem call_listK (hK : X.K = K) : CallR X (.type "list") (rListO K) := hK ▸ call_listO
theorem call_tupK (hK : X.K = K) : CallR X (.type "tuple") (rTupO K) := hK ▸ call_tupO
theorem pt_truK (hK : X.K = K) {a : Expr} {ta : TE} (ha : PE X a ta) (he : ∀ whole, isTrue a X.env whole = (do let v ← whole; standAt a.pos; holding [v] (truthy v)) := by intro _; rfl) : PT X a (tTruX K ta) := hK ▸ pt_truX ha he
theorem pi_K (hK : X.K = K) {tg l : Expr} {tl : TE} (hl : PE X l tl) : PI X tg l (iX K tl) := hK ▸ pi_X hl
theorem cr_sumK (hK : X.K = K) (hc : X.calm = true) : CallR X (.builtin "sum") (rSum K) := hK ▸ cr_sum hc
theorem cr_allK (hK : X.K = K) (hc : X.calm = true) : CallR X (.builtin "all") (rAll K) := hK ▸ cr_all hc
theorem cr_anyK (hK : X.K = K) (hc : X.calm = true) : CallR X (.builtin "any") (rAny K) := hK ▸ cr_any hc
theorem pg_tupK (hK : X.K = K) {es : List Expr} {k : Nat} {t : TGs} {n : Nat} {pos : Pos} (hc : X.calm = true) (h : PGs X es t)
    (hn : (assignEach es X.env).length = n := by rfl) (hst : (assignEach es X.env).findIdx? (·.1) = none := by rfl) : PG X (.Tuple es k pos) (gTup K n t) := hK ▸ pg_tup hc h hn hst
end
def BmW (K : PySem.W.Frag) (T : String) (rc : V → List V → Hp → VK → Prop) (ta : TA) (σ : St) (x : V) (H1 : Hp) (Q : VK) : Prop := tyV K T x H1 ∧ ta σ H1 fun vs H2 => rc x vs H2 Q
def BmW0 (K : PySem.W.Frag) (T : String) (rc : V → List V → Hp → VK → Prop) (x : V) (H1 : Hp) (Q : VK) : Prop := tyV K T x H1 ∧ rc x [] H1 Q
section
variable {K : PySem.W.Frag} {H : Hp} {Q : VK} {σ : St}
/-! ### bound methods -/
theorem go_bm {T : String} {rc : V → List V → Hp → VK → Prop} {te : TE} {ta : TA} (h : te σ H fun x H1 => BmW K T rc ta σ x H1 Q) : tBM K T rc te ta σ H Q := h
theorem go_bmW {T : String} {rc : V → List V → Hp → VK → Prop} {ta : TA} {x : V} (h1 : tyV K T x H) (h : ta σ H fun vs H2 => rc x vs H2 Q) : BmW K T rc ta σ x H Q := ⟨h1, h⟩
theorem go_bm0 {T : String} {rc : V → List V → Hp → VK → Prop} {te : TE} (h : te σ H fun x H1 => BmW0 K T rc x H1 Q) : tBM0 K T rc te σ H Q := h
theorem go_bmW0 {T : String} {rc : V → List V → Hp → VK → Prop} {x : V} (h1 : tyV K T x H) (h : rc x [] H Q) : BmW0 K T rc x H Q := ⟨h1, h⟩
theorem tyV_s {z : Str} : tyV K "str" (.str z) H := rfl
theorem tyV_l {p : Addr} {xs : List V} (h : SqL K H p xs) : tyV K "list" (.ref p) H := .inl ⟨rfl, xs, h⟩
theorem tyV_d {p : Addr} {kvs : List (Key × V)} (h : H p = some (.dK kvs)) : tyV K "dict" (.ref p) H := .inr (.inr (.inl ⟨rfl, .inl ⟨kvs, h⟩⟩))
theorem tyV_dT {p : Addr} {kvs} (h : H p = some (.dT kvs)) : tyV K "dict" (.ref p) H := .inr (.inr (.inl ⟨rfl, .inr ⟨kvs, h⟩⟩))
theorem go_append {l : Addr} {xs : List V} {y : V} (hl : H l = some (.lst xs)) (z : xs.length < 100000) (h : Q .non (upd H l (.lst (xs ++ [y])))) : rAppend (.ref l) [y] H Q := ⟨l, xs, y, rfl, rfl, hl, Nat.lt_of_lt_of_le z (by decide), h⟩
end
end L2.A

namespace L2.A
open PySem PySem.Spec PyProof.Rows
section
variable {σ σ' : St} {H : Hp} {D : Ends} {u v w : V} {i j l : Nat} {ta : TA}
def P3 (i j l : Nat) (σ : St) (D : Ends) (vs : List V) (H1 : Hp) : Prop := ∃ u v w, vs = [u, v, w] ∧ D.nx (((σ.set i (some u)).set j (some v)).set l (some w)) H1
def P2 (i j : Nat) (σ : St) (D : Ends) (vs : List V) (H1 : Hp) : Prop := ∃ u v, vs = [u, v] ∧ D.nx ((σ.set i (some u)).set j (some v)) H1
theorem go_par3 (h : ta σ H fun vs H1 => P3 i j l σ D vs H1) : tPar3 i j l ta D σ H := h
theorem go_par (h : ta σ H fun vs H1 => P2 i j σ D vs H1) : tPar i j ta D σ H := h
theorem go_p3 (e : ((σ.set i (some u)).set j (some v)).set l (some w) = σ') (h : D.nx σ' H) : P3 i j l σ D [u, v, w] H := ⟨u, v, w, rfl, by rw [e]; exact h⟩
theorem go_p2 (e : (σ.set i (some u)).set j (some v) = σ') (h : D.nx σ' H) : P2 i j σ D [u, v] H := ⟨u, v, rfl, by rw [e]; exact h⟩
end
theorem kp_mut {fp : Addr → Prop} {H H' : Hp} {l : Addr} {o : HO} (k : Kp fp H H') (h : H l = none) : Kp fp H (upd H' l o) := fun a u e n => by rw [upd_ne (ne_of_none e h)]; exact k a u e n
theorem kp_new {fp : Addr → Prop} {H H' : Hp} {l : Addr} {o : HO} (k : Kp fp H H') (h : H' l = none) : Kp fp H (upd H' l o) := k.trans (Kp.same (same_new h))
end L2.A

namespace L2.A
open PySem PySem.Spec PyProof.Rows
/-- a new object, the heap abstract -/
theorem go_new {o : HO} {H : Hp} {Q : VK} (h : ∀ p H', H p = none → Same H H' → H' p = some o → Q (.ref p) H') : NewO o H Q := fun p hp => h p _ hp (same_new hp) upd_same
/-- the same, from an earlier heap -/
theorem go_newS {o : HO} {H0 H : Hp} {Q : VK} (s : Same H0 H) (h : ∀ p H', H0 p = none → Same H0 H' → H' p = some o → Q (.ref p) H') : NewO o H Q := fun p hp => h p _ (s.free hp) (s.trans (same_new hp)) upd_same
end L2.A

namespace L2.A
open PySem PySem.Spec PyProof.Rows
section
variable {X : Cx} {K : PySem.W.Frag} {σ σ' : St} {H : Hp} {D : Ends} {Q : VK} {J : It} {n : Nat} {G : Hp → Prop} {Y : Nat → Hp → V → Hp → Prop}
/-! ### walks of any kind -/
theorem ForW.it (w : Walk J n G Y) {g : TG} {tb : TS} (Pv : Nat → St → Hp → Prop) (h0 : Pv 0 σ H) (hG : ∀ i σ H, i ≤ n → Pv i σ H → G H)
    (hs : ∀ i x σ H H', i < n → Pv i σ H → Y i H x H' → g x σ H' fun σ2 H2 => tb { D with nx := Pv (i + 1), ct := Pv (i + 1), bk := D.nx } σ2 H2) (hd : ∀ σ H, Pv n σ H → D.nx σ H) : ForW J g tb D σ H := for_it w Pv h0 hG hs hd
theorem LcW.it (w : Walk J n G Y) {H1 : Hp} {g : TG} {tt : TT} {te : TE} {vs : List Nat} (R : Addr → Nat → List V → Hp → Prop) (hz : n ≤ 100000) (h0 : ∀ D, H1 D = none → R D 0 [] (upd H1 D (.lst []))) (hG : ∀ D i ys H, H1 D = none → i ≤ n → H D = some (.lst ys) → R D i ys H → G H)
    (hs : ∀ D i x ys H H', H1 D = none → i < n → ys.length ≤ i → H D = some (.lst ys) → R D i ys H → Y i H x H' → ∀ (yes : V → Hp → Prop) (no : Hp → Prop),
      (∀ y H'', H'' D = some (.lst ys) → R D (i + 1) (ys ++ [y]) (upd H'' D (.lst (ys ++ [y]))) → yes y H'') → (∀ H'', H'' D = some (.lst ys) → R D (i + 1) ys H'' → no H'') →
      g x (wipe σ vs) H' fun σ2 H2 => wipe σ2 vs = wipe σ vs ∧ tt σ2 H2 fun b H3 => if b = true then te σ2 H3 yes else no H3)
    (hd : ∀ D ys H', H1 D = none → H' D = some (.lst ys) → ys.length ≤ n → R D n ys H' → Q (.ref D) H') : LcW J g tt te vs σ H1 Q := by
  intro D hD
  refine lc_it w (fun i H' => ∃ ys, H' D = some (.lst ys) ∧ ys.length ≤ i ∧ R D i ys H') ⟨[], upd_same, Nat.le_refl _, h0 D hD⟩ (fun i H' hi ⟨ys, e, _, r⟩ => hG D i ys H' hD hi e r) (fun i x H' H'' hi ⟨ys, e, hl, r⟩ y => ?_) fun H' ⟨ys, e, hl, r⟩ => hd D ys H' hD e hl r
  refine hs D i x ys H' H'' hD hi hl e r y _ _ (fun z H3 e3 r3 => ⟨ys, e3, ?_, ys ++ [z], upd_same, by rw [List.length_append]; show ys.length + 1 ≤ _; omega, r3⟩) fun H3 e3 r3 => ⟨ys, e3, by omega, r3⟩
  exact Nat.lt_of_le_of_lt hl (Nat.lt_of_lt_of_le hi (Nat.le_trans hz (by decide)))
/-! ### reversed(range), enumerate, zip -/
def RvR (a b : Int) (H1 : Hp) (R : It → Hp → Prop) : Prop := -(2 ^ 62) ≤ a ∧ a < 2 ^ 62 ∧ -(2 ^ 62) ≤ b ∧ b < 2 ^ 62 ∧ R (Itc (a + (((b - a).toNat : Nat) : Int) - 1) (-1) (b - a).toNat) H1
def Rg1 (x : V) (H1 : Hp) (Q : Int → Int → Hp → Prop) : Prop := ∃ n, x = .int n ∧ Q 0 n H1
theorem go_revR {tr : St → Hp → (Int → Int → Hp → Prop) → Prop} {R : It → Hp → Prop} (h : tr σ H fun a b H1 => RvR a b H1 R) : iRevR tr σ H R := h
theorem go_rg1 {ta : TE} {Q : Int → Int → Hp → Prop} (h : ta σ H fun x H1 => Rg1 x H1 Q) : tRg1 ta σ H Q := h
theorem go_rg1b {n : Int} {Q : Int → Int → Hp → Prop} (h : Q 0 n H) : Rg1 (.int n) H Q := ⟨n, rfl, h⟩
theorem go_rvR {b : Int} {R : It → Hp → Prop} (h1 : 0 ≤ b ∧ b ≤ 100000) (h : R (Itc (b - 1) (-1) b.toNat) H) : RvR 0 b H R := ⟨by omega, by omega, by omega, by omega, by rw [show (0 : Int) + (((b - 0).toNat : Nat) : Int) - 1 = b - 1 by omega, show (b - 0).toNat = b.toNat by omega]; exact h⟩
def EnW (K : PySem.W.Frag) (vs : List V) (H1 : Hp) (R : It → Hp → Prop) : Prop := ∃ a xs, vs = [.ref a] ∧ SqL K H1 a xs ∧ R (Ite K a) H1
theorem go_enum {ta : TA} {R : It → Hp → Prop} (h : ta σ H fun vs H1 => EnW K vs H1 R) : iEnum K ta σ H R := h
theorem go_enW {a : Addr} {xs : List V} {R : It → Hp → Prop} (hS : SqL K H a xs) (h : R (Ite K a) H) : EnW K [.ref a] H R := ⟨a, xs, rfl, hS, h⟩
def ZpW (K : PySem.W.Frag) (vs : List V) (H1 : Hp) (R : It → Hp → Prop) : Prop := ∃ a b xs ys, vs = [.ref a, .ref b] ∧ SqL K H1 a xs ∧ SqL K H1 b ys ∧ R (Itz K a b) H1
theorem go_zip {ta : TA} {R : It → Hp → Prop} (h : ta σ H fun vs H1 => ZpW K vs H1 R) : iZip K ta σ H R := h
theorem go_zpW {a b : Addr} {xs ys : List V} {R : It → Hp → Prop} (hS : SqL K H a xs) (hT : SqL K H b ys) (h : R (Itz K a b) H) : ZpW K [.ref a, .ref b] H R := ⟨a, b, xs, ys, rfl, hS, hT, h⟩
/-! ### name op= e, o[i] op= e -/
theorem ip_addX : PIp X .Add (fun x y H Q => rI0 (fun i j => .int (i + j)) x y H Q ∨ rStrA x y H Q ∨ rExt2 x y H Q) := iop_add.or (iop_add_str.or iop_ext)
def AugW (te : TE) (ti : TIp) (σ : St) (i : Nat) (D : Ends) (x : V) (H : Hp) : Prop := te σ H fun y H1 => ti x y H1 fun z H2 => D.nx (σ.set i (some z)) H2
theorem go_aug {i : Nat} {te : TE} {ti : TIp} {x : V} (e : σ[i]? = some (some x)) (h : te σ H fun y H1 => ti x y H1 fun z H2 => gName i z σ H2 D.nx) : tAug i te ti D σ H := ⟨x, e, h⟩
theorem go_ipI {f : Int → Int → Int} {a b : Int} (h : Q (.int (f a b)) H) : ipI f (.int a) (.int b) H Q := ⟨a, b, rfl, rfl, h⟩
theorem go_ipA {a b : Int} (h : Q (.int (a + b)) H) : (rI0 (fun i j => .int (i + j)) (.int a) (.int b) H Q ∨ rStrA (.int a) (.int b) H Q ∨ rExt2 (.int a) (.int b) H Q) := .inl ⟨a, b, rfl, rfl, h⟩
theorem go_ipS {a b : Str} (z : a.length + b.length ≤ sizeLine) (h : Q (.str (a ++ b)) H) : (rI0 (fun i j => .int (i + j)) (.str a) (.str b) H Q ∨ rStrA (.str a) (.str b) H Q ∨ rExt2 (.str a) (.str b) H Q) := .inr (.inl ⟨a, b, rfl, rfl, z, h⟩)
theorem go_ipL {a b : Addr} {xs ys : List V} (hp : H a = some (.lst xs)) (hq : H b = some (.lst ys)) (z : xs.length + ys.length ≤ sizeLine) (h : Q (.ref a) (upd H a (.lst (xs ++ ys)))) : (rI0 (fun i j => .int (i + j)) (.ref a) (.ref b) H Q ∨ rStrA (.ref a) (.ref b) H Q ∨ rExt2 (.ref a) (.ref b) H Q) := .inr (.inr ⟨a, b, xs, ys, rfl, rfl, hp, hq, z, h⟩)
end
/-! ### lists told by a function of the place -/
def lstF (n : Nat) (f : Nat → V) : List V := (List.range n).map f
theorem lstF_len {n : Nat} {f : Nat → V} : (lstF n f).length = n := by simp [lstF]
theorem lstF_at {n : Nat} {f : Nat → V} {i : Nat} (h : i < n) : (lstF n f)[i]? = some (f i) := by simp [lstF, h]
theorem lstF_atI {n : Nat} {f : Nat → V} {i : Int} (h0 : 0 ≤ i) (h1 : i < n) : atI (lstF n f) i = some (f i.toNat) := by
  obtain ⟨j, rfl⟩ : ∃ j : Nat, i = (j : Int) := ⟨i.toNat, by omega⟩
  exact atI_nat (lstF_at (by omega))
theorem lstF_last {n : Nat} {f : Nat → V} : atI (lstF (n + 1) f) (-1) = some (f n) := by
  have e : ixN (n + 1) (-1) = some n := by
    unfold ixN
    rw [if_neg (by omega), if_pos (by omega)]
    congr 1
    omega
  unfold atI
  rw [lstF_len, e]
  exact lstF_at (by omega)
theorem lstF_app {n : Nat} {f : Nat → V} {v : V} : lstF n f ++ [v] = lstF (n + 1) (fun i => if i = n then v else f i) := by
  unfold lstF
  rw [List.range_succ, List.map_append]
  congr 1
  · refine List.map_congr_left fun i hi => ?_
    rw [if_neg (by have := List.mem_range.mp hi; omega)]
  · simp
theorem lstF_set {n k : Nat} {f : Nat → V} {v : V} (h : k < n) : (lstF n f).set k v = lstF n (fun i => if i = k then v else f i) := by
  apply List.ext_getElem?
  intro i
  unfold lstF
  rw [List.getElem?_set]
  by_cases e : k = i
  · subst e
    simp [h]
  · rw [if_neg e]
    by_cases l : i < n
    · simp [l, Ne.symm e]
    · simp [l]
theorem lstF_congr {n : Nat} {f g : Nat → V} (h : ∀ i, i < n → f i = g i) : lstF n f = lstF n g := List.map_congr_left fun i hi => h i (List.mem_range.mp hi)
theorem lstF_cut {n m : Nat} {f : Nat → V} (h : m ≤ n) : cutV (lstF n f) none (some (m : Int)) = lstF m f := by
  unfold cutV
  rw [HT.sIx_nat, HT.sIx_none, lstF_len, Nat.min_eq_left h, List.drop_zero, Nat.sub_zero]
  unfold lstF
  rw [← List.map_take, List.take_range, Nat.min_eq_left h]
theorem lstF_of (xs : List V) (d : V) : xs = lstF xs.length (fun i => xs.getD i d) := by
  apply List.ext_getElem?
  intro i
  by_cases l : i < xs.length
  · rw [lstF_at l]; simp [l]
  · simp [lstF, l]
end L2.A

namespace L2.A
open PySem PySem.Spec PyProof.Rows
theorem DpAll.map {K : PySem.W.Frag} {H : Hp} {α : Type} {f : α → V} {g : α → PyData} : ∀ {xs : List α}, (∀ x ∈ xs, Dp K H (f x) (g x)) → DpAll K H (xs.map f) (xs.map g)
  | [], _ => .nil
  | x :: xs, h => .cons (h x (List.mem_cons_self ..)) (DpAll.map fun y m => h y (List.mem_cons_of_mem _ m))
theorem canAll_map {α : Type} {g : α → PyData} : ∀ {xs : List α}, (∀ x ∈ xs, (g x).canLay0 = true) → PyData.canLayAll0 (xs.map g) = true
  | [], _ => rfl
  | x :: xs, h => by
    simp only [List.map_cons, PyData.canLayAll0, h x (List.mem_cons_self ..), canAll_map fun y m => h y (List.mem_cons_of_mem _ m), Bool.and_self]
theorem depthAll_map {α : Type} {g : α → PyData} {d : Nat} : ∀ {xs : List α}, (∀ x ∈ xs, (g x).depth ≤ d) → PyData.depthAll (xs.map g) ≤ d
  | [], _ => Nat.zero_le _
  | x :: xs, h => by
    simp only [List.map_cons, PyData.depthAll]
    exact Nat.max_le.mpr ⟨h x (List.mem_cons_self ..), depthAll_map fun y m => h y (List.mem_cons_of_mem _ m)⟩
theorem shaped_of {d : PyData} (h1 : d.canLay0 = true) (h2 : d.depth ≤ 64) : SeqAt.shaped d = true := by
  unfold SeqAt.shaped
  rw [h1, decide_eq_true h2]; rfl
theorem go_eqD {K : PySem.W.Frag} {H : Hp} {Q : VK} {x y : V} {d e : PyData} (h1 : Dp K H x d) (h2 : Dp K H y e) (s1 : SeqAt.shaped d = true) (s2 : SeqAt.shaped e = true) (h : Q (.bl (PyData.eqv d e)) H) : rEqX K x y H Q := .inr ⟨d, e, h1, h2, s1, s2, h⟩
theorem go_neD {K : PySem.W.Frag} {H : Hp} {Q : VK} {x y : V} {d e : PyData} (h1 : Dp K H x d) (h2 : Dp K H y e) (s1 : SeqAt.shaped d = true) (s2 : SeqAt.shaped e = true) (h : Q (.bl (!PyData.eqv d e)) H) : rNeX K x y H Q := .inr ⟨d, e, h1, h2, s1, s2, h⟩
theorem go_eqDs {K : PySem.W.Frag} {H : Hp} {Q : VK} {x y : V} {d : PyData} (h1 : Dp K H x d) (h2 : Dp K H y d) (s1 : d.canLay0 = true) (s2 : d.depth ≤ 64) (h : Q (.bl true) H) : rEqX K x y H Q :=
  go_eqD h1 h2 (shaped_of s1 s2) (shaped_of s1 s2) (by rw [SeqAt.eqv_refl d s1]; exact h)
theorem go_neDs {K : PySem.W.Frag} {H : Hp} {Q : VK} {x y : V} {d : PyData} (h1 : Dp K H x d) (h2 : Dp K H y d) (s1 : d.canLay0 = true) (s2 : d.depth ≤ 64) (h : Q (.bl false) H) : rNeX K x y H Q :=
  go_neD h1 h2 (shaped_of s1 s2) (shaped_of s1 s2) (by rw [SeqAt.eqv_refl d s1]; exact h)
end L2.A

namespace L2.A
open PySem PySem.Spec PyProof.Rows
theorem lstF_cutM {n m : Nat} {f : Nat → V} : cutV (lstF n f) none (some (m : Int)) = lstF (min m n) f := by
  unfold cutV
  rw [HT.sIx_nat, HT.sIx_none, lstF_len, List.drop_zero, Nat.sub_zero]
  unfold lstF
  rw [← List.map_take, List.take_range, Nat.min_eq_left (Nat.min_le_right _ _)]
theorem cut_take {xs : List V} {k : Nat} (h : k ≤ xs.length) : cutV xs none (some (k : Int)) = xs.take k := by
  unfold cutV
  rw [HT.sIx_nat, HT.sIx_none, List.drop_zero, Nat.sub_zero, Nat.min_eq_left h]
theorem cut_drop {xs : List V} {k : Nat} (h : k ≤ xs.length) : cutV xs (some (k : Int)) none = xs.drop k := by
  unfold cutV
  rw [HT.sIx_nat, HT.sIx_none, Nat.min_eq_left h]
  exact List.take_of_length_le (by rw [List.length_drop]; omega)
theorem perm_eq : ∀ {xs ys : List Int}, xs.Perm ys → xs.Pairwise (· ≤ ·) → ys.Pairwise (· ≤ ·) → xs = ys
  | [], ys, p, _, _ => p.symm.eq_nil.symm
  | x :: xs, [], p, _, _ => p.eq_nil
  | x :: xs, y :: ys, p, hx, hy => by
    have h1 : x ≤ y := by
      rcases List.mem_cons.mp (p.symm.subset (List.mem_cons_self ..) : y ∈ x :: xs) with e | m
      · omega
      · exact List.rel_of_pairwise_cons hx m
    have h2 : y ≤ x := by
      rcases List.mem_cons.mp (p.subset (List.mem_cons_self ..) : x ∈ y :: ys) with e | m
      · omega
      · exact List.rel_of_pairwise_cons hy m
    obtain rfl : x = y := by omega
    rw [perm_eq ((List.perm_cons x).mp p) (List.Pairwise.of_cons hx) (List.Pairwise.of_cons hy)]
theorem ints_ok (ns : List Int) : (ns.map V.int).all okV = true := by
  rw [List.all_eq_true]
  intro v m
  obtain ⟨i, _, rfl⟩ := List.mem_map.mp m
  rfl
theorem go_sorted {K : PySem.W.Frag} {H : Hp} {Q : VK} {a : Addr} {ns : List Int} (hS : SqL K H a (ns.map V.int)) (hz : ns.length < 64) (h : ∀ (ns' : List Int) (p : Addr), ns'.Perm ns → ns'.Pairwise (· ≤ ·) → H p = none → Q (.ref p) (upd H p (.lst (ns'.map V.int)))) : rSorted K [.ref a] H Q := ⟨a, ns, rfl, hS, hz, h⟩
end L2.A

namespace L2.A
open PySem PySem.Spec PyProof.Rows
theorem go_mulL {H : Hp} {Q : VK} {l : Addr} {k : Int} {xs : List V} (hp : H l = some (.lst xs)) (h0 : 0 ≤ k ∧ k ≤ 1000) (z : xs.length ≤ 100) (h : NewO (.lst (List.replicate k.toNat xs).flatten) H Q) : rMulX (.ref l) (.int k) H Q :=
  (.inr ∘ .inl) ⟨l, k, xs, rfl, rfl, hp, by omega, by omega, Nat.le_trans (Nat.mul_le_mul z (show k.toNat ≤ 1000 by omega)) (by decide), h⟩
end L2.A

namespace L2.A
open PySem PySem.Spec PyProof.Rows
section
variable {K : PySem.W.Frag} {H : Hp} {Q : VK}
/-! ### methods of texts -/
theorem go_joinL {a : Str} {p : Addr} {ys : List Str} (hp : SqL K H p (ys.map V.str)) (z : (ys.map (·.length)).sum + ys.length * a.length ≤ 16777216) (h : Q (.str (Txt.join a ys)) H) :
    (∃ a' p', ∃ ys' : List Str, V.str a = .str a' ∧ [V.ref p] = [.ref p'] ∧ (SqL K H p' (ys'.map V.str) ∨ SqT K H p' (ys'.map V.str)) ∧ (ys'.map (·.length)).sum + ys'.length * a'.length ≤ 16777216 ∧ Q (.str (Txt.join a' ys')) H) := ⟨a, p, ys, rfl, rfl, .inl hp, z, h⟩
theorem go_split {a b : Str} (h1 : (b.length == 0) = false) (h2 : a.length ≤ 10000) (h : NewO (.lst ((Txt.split a b).map V.str)) H Q) :
    (∃ a' b', V.str a = .str a' ∧ [V.str b] = [.str b'] ∧ (b'.length == 0) = false ∧ a'.length + 2 ≤ sizeLine ∧ rNewStrs (Txt.split a' b') H Q) := ⟨a, b, rfl, rfl, h1, Nat.le_trans (show a.length + 2 ≤ 10002 by omega) (by decide), h⟩
theorem go_starts {a b : Str} (h : Q (.bl (Txt.startswith a b)) H) : (∃ a' b', V.str a = .str a' ∧ [V.str b] = [.str b'] ∧ Q (.bl (Txt.startswith a' b')) H) := ⟨a, b, rfl, rfl, h⟩
theorem go_find {a b : Str} (h : Q (.int (Txt.find a b)) H) : (∃ a' b', V.str a = .str a' ∧ [V.str b] = [.str b'] ∧ Q (.int (Txt.find a' b')) H) := ⟨a, b, rfl, rfl, h⟩
end
end L2.A

namespace L2.A
open PySem PySem.Spec PyProof.Rows
theorem cutS_le {z : Str} {lo hi : Option Int} : (cutS z lo hi).length ≤ z.length := by
  have e : (cutS z lo hi).length = ((z.cps.toList.drop (HT.sIx z.length 0 lo)).take (HT.sIx z.length z.length hi - HT.sIx z.length 0 lo)).length := by
    unfold cutS
    exact List.size_toArray ..
  rw [e, List.length_take, List.length_drop]
  have h : z.length = z.cps.toList.length := (Array.length_toList ..).symm
  omega
end L2.A

namespace L2.A
open PySem PySem.Spec PyProof.Rows
/-- a statement that is never reached -/
def tDead : TS := fun _ _ _ => False
theorem ps_dead {X : Cx} {st : Stmt} : PS X st tDead := ⟨fun _ _ _ _ _ _ h => False.elim h⟩
end L2.A


namespace L2.A
open PySem PySem.Spec PyProof.Rows
/-! ### B.__init__(self, ..), B an own exception class without __init__ -/
def biB (K : PySem.W.Frag) (B : Addr) : Bool :=
  decide (PySem.W.specialIn K (.ref B) "__getattribute__" = some (some (.builtin "type.__getattribute__"))) && (decide (PySem.W.typeIn K (.ref B) = some (.type "type")) && (PySem.W.readsIn K B (.type "type") &&
    (match PySem.W.findCls K (.ref B) (.type "type") "__init__" with
      | some (.val v) => decide (v = .builtin "ValueError.__init__")
      | _ => false)))
section
variable {X : Cx} {o e : Expr} {es : List Expr} {to te : TE} {ta : TA} {f : Str} {p p' p1 p2 pos : Pos} {x : Str} {B : Addr}
theorem pe_binit {pl : Sem Bool} (hg : Gl X x) (hm : X.mg x = some (.ref B)) (bb : biB X.K B = true) (ha : PA X (e :: es) ta) (hdb : (x == ("__debug__" : Str)) = false := by decide)
    (hc : eval (.Call (.Attribute (.Name x p1) "__init__" p2) (e :: es) [] pos) X.env = (do
      let ov ← eval (.Name x p1) X.env
      standAt p2.atName
      let (f, first) ← holding [ov] (getMethod ov "__init__" pl)
      callWith pos f first (backTo pos (starEach (e :: es) X.env)) (backToKw pos (keywordEach [] X.env))) := by rfl)
    (he : starEach (e :: es) X.env = (false, eval e X.env) :: starEach es X.env := by rfl) (hpl : (backTo pos (starEach es X.env)).any (·.1) = false := by rfl) :
    PE X (.Call (.Attribute (.Name x p1) "__init__" p2) (e :: es) [] pos) (tVeI X.K ta) := by
  unfold biB at bb
  rw [Bool.and_eq_true, Bool.and_eq_true, Bool.and_eq_true] at bb
  obtain ⟨b1, b2, b3, b4⟩ := bb
  have b1 := of_decide_eq_true b1
  have b2 := of_decide_eq_true b2
  have b5 : PySem.W.findCls X.K (.ref B) (.type "type") "__init__" = some (.val (.builtin "ValueError.__init__")) := by
    revert b4
    cases PySem.W.findCls X.K (.ref B) (.type "type") "__init__" with
    | none => intro h; cases h
    | some r =>
      cases r with
      | val v => intro h; rw [of_decide_eq_true h]
      | get _ _ _ _ => intro h; cases h
  refine ⟨fun pins s σ H Q I h => ?_⟩
  refine PySem.W.methodCall_KW (ld_glob I hg hm ?_ hdb) hc
  obtain ⟨m, fr⟩ := I.fr
  refine PySem.W.method_of_cls fr I.ok.mod.kin b1 ?_
  refine PySem.W.cls_val fr I.ok.mod.kin b2 b3 b5 (by decide +kernel) ?_
  show wpAny _ _ (callWith pos (Value.builtin "ValueError.__init__") [] (backTo pos (starEach (e :: es) X.env)) []) _ _ _
  refine PyProof.Rows.callWith_method1 (thn (ha.run pos pins _ σ H _ (I.tok _) h) fun us s1 ⟨vs, H1, I1, r1, a, C, ws, ev, hl, T, ea, q⟩ => ?_) he hpl
  subst ev
  cases r1 with
  | @cons _ u0 _ ur ra rw' =>
    obtain rfl : u0 = Value.ref a := ra
    have hlen : ur.length ≤ sizeLine := by
      rw [← Paired.length rw', sizeLine_eq]
      omega
    exact oinit_ok T I1 ea hlen fun s' J => ⟨.non, H1, J, rfl, q⟩
end
/-! ### a head by facts with any more that the fragment decides -/
def frX (n : Nat) (g : Addr → Option Obj) : PySem.W.Frag := He.frG g (cStatics :: He.asD g n)
def obsXG (n : Nat) (fa : List He.Fa) (fn : List He.DefD) (xs : List (PySem.W.Frag → Bool)) (g : Addr → Option Obj) : Bool × He.AlD := (xs.all fun f => f (frX n g), He.obsD fa fn (frX n g))
def hookX (n : Nat) (fa : List He.Fa) (fn : List He.DefD) (xs : List (PySem.W.Frag → Bool)) : PySem.W.Hook where
  α := Bool × He.AlD
  obs := fun s => obsXG n fa fn xs s.heap.get?
  val := fun _ => (true, He.valD fn)
  says := fun _ h => ∃ K : PySem.W.Frag, K.In h ∧ He.SaysD fa fn K ∧ (xs.all fun f => f K) = true
  of := fun _ _ e => ⟨_, He.frG_in, (Prod.ext_iff.mp e).2, (Prod.ext_iff.mp e).1⟩
  keeps := fun _ _ _ ⟨K, hK, c⟩ k => ⟨K, PySem.W.Frag.In.keeps hK k, c⟩
theorem obsXG_eq {n : Nat} {fa : List He.Fa} {fn : List He.DefD} {xs : List (PySem.W.Frag → Bool)} {g : Addr → Option Obj} {s : Shared} (h : ∀ a, g a = s.heap.get? a) : obsXG n fa fn xs g = (hookX n fa fn xs).obs s := by
  have e : g = s.heap.get? := funext h
  rw [e] <;> rfl
theorem more_fact {xs : List (PySem.W.Frag → Bool)} {K : PySem.W.Frag} (c : (xs.all fun f => f K) = true) (i : Nat) {f : PySem.W.Frag → Bool} (h : xs[i]? = some f := by rfl) : f K = true := List.all_eq_true.mp c f (List.mem_of_getElem? h)
end L2.A

namespace L2.A
open PySem PySem.Spec PyProof.Rows
/-- what the fragment must say of an own exception class, as a test -/
def oexB (K : PySem.W.Frag) (C : Addr) : Bool :=
  (match K.lookup C with
    | some ⟨.type "type", _, .cls cd, sl⟩ => (match cd.mro, sl.toList with
      | .ref C' :: bm, [_, _, _, _, some (.builtin n), _] => C' == C && n == "ValueError.__new__" && !cd.hasDel && cd.hasDict && PySem.HandSPX.refsVE bm
      | _, _ => false)
    | _ => false) && (decide (PySem.W.findIn K (.ref C) "__setattr__" = some (some (.builtin "object.__setattr__"))) && (decide (PySem.W.subIn K (.ref C) (.type "BaseException") = some true) && (decide (PySem.W.typeIn K (.ref C) = some (.type "type")) && PySem.W.keepIn K (.ref C))))
theorem oexB_ok {K : PySem.W.Frag} {C : Addr} (h : oexB K C = true) : OexC K C := by
  unfold oexB at h
  rw [Bool.and_eq_true, Bool.and_eq_true, Bool.and_eq_true, Bool.and_eq_true] at h
  obtain ⟨q, b1, b2, b3, b4⟩ := h
  refine ⟨?_, of_decide_eq_true b1, of_decide_eq_true b2, of_decide_eq_true b3, b4⟩
  split at q
  · rename_i dd cd sl ho
    split at q
    · rename_i C' bm k0 k1 k2 k3 n k5 hm hs
      simp only [Bool.and_eq_true, beq_iff_eq, Bool.not_eq_true'] at q
      obtain ⟨⟨⟨⟨rfl, rfl⟩, hdel⟩, hdct⟩, ht⟩ := q
      obtain ⟨nm, bs, mro, ns, qn, hd, sn, sub, ab, col, del⟩ := cd
      dsimp only at hm hdel hdct
      subst hm hdel hdct
      have hsl : sl = #[k0, k1, k2, k3, some (.builtin "ValueError.__new__"), k5] := by
        obtain ⟨l⟩ := sl
        simp only at hs
        rw [hs]
      subst hsl
      exact ⟨nm, qn, ns, bs, bm, sn, sub, ab, col, dd, k0, k1, k2, k3, k5, ho, ht⟩
    · cases q
  · cases q
end L2.A


namespace L2.A
open PySem PySem.Spec PyProof.Rows
/-! ### own classes: methods and instances by name -/
structure MtD (P : Program) (w : World) (K : PySem.W.Frag) (mg : Str → Option Value) (base : Heap) (CX : CXT) (k : Nat) (C : Addr) (m : Str) (ps : List Str) (dvs : List V) (sp : Sp) : Prop where
  ex : ∃ (f : Addr) (fd : FuncData) (ds : List Value), FnOk P w K mg base CX k f fd ps sp ∧ Meth K C m f ∧ Cls K C ∧ Binds K fd ps ds ∧ Vals dvs ds
structure MkD (P : Program) (w : World) (K : PySem.W.Frag) (mg : Str → Option Value) (base : Heap) (CX : CXT) (k : Nat) (C : Addr) (x : Str) (ps : List Str) (dvs : List V) (sp : Sp) : Prop where
  ex : ∃ (f : Addr) (fd : FuncData) (ds : List Value), FnOk P w K mg base CX k f fd ps sp ∧ Mk K C f ∧ mg x = some (.ref C) ∧ Binds K fd ps ds ∧ Vals dvs ds
section
variable {X : Cx} {CX : CXT} {k : Nat} {ps : List Str} {dvs : List V} {sp : Sp} {E : XK} {x m : Str} {p apos pos : Pos} {o e : Expr} {es : List Expr} {t : TA} {ta : TE} {C : Addr}
theorem pe_mth {pl : Sem Bool} (D : MtD X.prog X.w X.K X.mg X.base CX k C m ps dvs sp) (hr : Room k X.A) (hx : Passes CX X E) (he : PE X o ta) (ha : PA X (e :: es) t)
    (hst : starEach (e :: es) X.env = (false, eval e X.env) :: starEach es X.env := by rfl) (hpl : (backTo pos (starEach es X.env)).any (·.1) = false := by rfl)
    (ht : eval (.Call (.Attribute o m apos) (e :: es) [] pos) X.env = (do
      let ov ← eval o X.env
      standAt apos.atName
      let (f, first) ← holding [ov] (getMethod ov m pl)
      callWith pos f first (backTo pos (starEach (e :: es) X.env)) (backToKw pos (keywordEach [] X.env))) := by rfl) : PE X (.Call (.Attribute o m apos) (e :: es) [] pos) (tMeth C m sp dvs E ta t) := by
  obtain ⟨f, fd, ds, F, hm, c, hb, hv⟩ := D.ex
  exact pe_meth he c hm F hr hb hv hx ha hst hpl ht
theorem pe_mth0 {pl : Sem Bool} (D : MtD X.prog X.w X.K X.mg X.base CX k C m ps dvs sp) (hr : Room k X.A) (hx : Passes CX X E) (he : PE X o ta)
    (ht : eval (.Call (.Attribute o m apos) [] [] pos) X.env = (do
      let ov ← eval o X.env
      standAt apos.atName
      let (f, first) ← holding [ov] (getMethod ov m pl)
      callWith pos f first (backTo pos (starEach [] X.env)) (backToKw pos (keywordEach [] X.env))) := by rfl) : PE X (.Call (.Attribute o m apos) [] [] pos) (tMeth C m sp dvs E ta tNil) := by
  obtain ⟨f, fd, ds, F, hm, c, hb, hv⟩ := D.ex
  exact pe_meth0 he c hm F hr hb hv hx ht
theorem pe_mke (D : MkD X.prog X.w X.K X.mg X.base CX k C x ps dvs sp) (hr : Room (k + 1) X.A) (hg : Gl X x) (hx : Passes CX X E) (ha : PA X (e :: es) t) (hdb : (x == ("__debug__" : Str)) = false := by decide)
    (he : starEach (e :: es) X.env = (false, eval e X.env) :: starEach es X.env := by rfl) (hpl : (backTo pos (starEach es X.env)).any (·.1) = false := by rfl) : PE X (.Call (.Name x p) (e :: es) [] pos) (tMake C sp dvs E t) := by
  obtain ⟨f, fd, ds, F, M, hm, hb, hv⟩ := D.ex
  exact pe_make M F hr hg hm hb hv hx ha hdb he hpl
theorem pe_mke0 (D : MkD X.prog X.w X.K X.mg X.base CX k C x ps dvs sp) (hr : Room (k + 1) X.A) (hg : Gl X x) (hx : Passes CX X E) (hdb : (x == ("__debug__" : Str)) = false := by decide) : PE X (.Call (.Name x p) [] [] pos) (tMake C sp dvs E tNil) := by
  obtain ⟨f, fd, ds, F, M, hm, hb, hv⟩ := D.ex
  exact pe_make0 M F hr hg hm hb hv hx hdb
end
section
variable {K : PySem.W.Frag} {σ : St} {H : Hp} {D : Ends} {Q : VK} {ta tv : TE} {t : TA} {f m : Str} {a C dx : Addr} {fs fs' : List (Str × V)} {v y : V} {sp : Sp} {dvs : List V} {E : XK}
def FldW (K : PySem.W.Frag) (f : Str) (x : V) (H1 : Hp) (Q : VK) : Prop := ∃ a C dx fs v, x = .ref a ∧ H1 a = some (.ins C dx fs) ∧ Cls K C ∧ NoAttr K C f ∧ fs.lookup f = some v ∧ Q v H1
theorem go_fld (h : ta σ H fun x H1 => FldW K f x H1 Q) : tFld K ta f σ H Q := h
theorem go_fldW (hp : H a = some (.ins C dx fs)) (c : Cls K C) (n : NoAttr K C f) (l : fs.lookup f = some v) (h : Q v H) : FldW K f (.ref a) H Q := ⟨a, C, dx, fs, v, rfl, hp, c, n, l, h⟩
def SFldW (K : PySem.W.Frag) (f : Str) (y : V) (D : Ends) (σ : St) (x : V) (H2 : Hp) : Prop := ∃ a C dx fs, x = .ref a ∧ H2 a = some (.ins C dx fs) ∧ Cls K C ∧ NoAttr K C f ∧ fs.length < 1000 ∧ D.nx σ (upd H2 a (.ins C dx (putF f y fs)))
theorem go_sfld (h : tv σ H fun y H1 => ta σ H1 fun x H2 => SFldW K f y D σ x H2) : sFld K ta tv f D σ H := h
theorem go_sfldW (hp : H a = some (.ins C dx fs)) (c : Cls K C) (n : NoAttr K C f) (z : Nat.ble fs.length 900 = true) (e : putF f y fs = fs') (h : D.nx σ (upd H a (.ins C dx fs'))) : SFldW K f y D σ (.ref a) H :=
  ⟨a, C, dx, fs, rfl, hp, c, n, Nat.lt_of_le_of_lt (Nat.le_of_ble_eq_true z) (by decide), by rw [e]; exact h⟩
def MethW (C : Addr) (m : Str) (sp : Sp) (dvs : List V) (E : XK) (t : TA) (σ : St) (x : V) (H1 : Hp) (Q : VK) : Prop := ∃ a dx fs, x = .ref a ∧ H1 a = some (.ins C dx fs) ∧ fs.lookup m = none ∧ t σ H1 fun vs H2 => sp (x :: (vs ++ dvs)) H2 Q E
theorem go_meth (h : ta σ H fun x H1 => MethW C m sp dvs E t σ x H1 Q) : tMeth C m sp dvs E ta t σ H Q := h
theorem go_methW (hp : H a = some (.ins C dx fs)) (l : fs.lookup m = none) (h : t σ H fun vs H2 => sp (.ref a :: (vs ++ dvs)) H2 Q E) : MethW C m sp dvs E t σ (.ref a) H Q := ⟨a, dx, fs, rfl, hp, l, h⟩
def MakeW (C : Addr) (sp : Sp) (dvs : List V) (E : XK) (vs : List V) (H1 : Hp) (Q : VK) : Prop := ∀ x dx, H1 x = none → H1 dx = none → dx ≠ x → sp (.ref x :: (vs ++ dvs)) (upd (upd H1 dx (.own x)) x (.ins C dx [])) (fun v H2 => v = .non ∧ Q (.ref x) H2) E
theorem go_make (h : t σ H fun vs H1 => MakeW C sp dvs E vs H1 Q) : tMake C sp dvs E t σ H Q := h
/-- o.f op= e -/
def AFldW (K : PySem.W.Frag) (f : Str) (tv : TE) (rd : V → V → Hp → VK → Prop) (D : Ends) (σ : St) (x : V) (H1 : Hp) : Prop := ∃ a C dx fs v, x = .ref a ∧ H1 a = some (.ins C dx fs) ∧ Cls K C ∧ NoAttr K C f ∧ fs.lookup f = some v ∧ tv σ H1 fun y H2 => rd v y H2 fun z H3 => ∃ dx' fs', H3 a = some (.ins C dx' fs') ∧ fs'.length < 1000 ∧ D.nx σ (upd H3 a (.ins C dx' (putF f z fs')))
end
section
variable {a b c d e g h' : V} {R2' : V → V → Hp → VK → XK → Prop} {H : Hp} {Q : VK} {E : XK}
/-! ### a method's promise: self, then the rest -/
theorem go_ms1 {R} (h : R a H Q E) : Sp1 R (a :: ([] ++ [])) H Q E := ⟨a, rfl, h⟩
theorem go_ms2 {R} (h : R a b H Q E) : Sp2 R (a :: ([b] ++ [])) H Q E := ⟨a, b, rfl, h⟩
theorem go_ms3 {R} (h : R a b c H Q E) : Sp3 R (a :: ([b, c] ++ [])) H Q E := ⟨a, b, c, rfl, h⟩
theorem go_ms4 {R} (h : R a b c d H Q E) : Sp4 R (a :: ([b, c, d] ++ [])) H Q E := ⟨a, b, c, d, rfl, h⟩
theorem go_ms5 {R} (h : R a b c d e H Q E) : Sp5 R (a :: ([b, c, d, e] ++ [])) H Q E := ⟨a, b, c, d, e, rfl, h⟩
end
end L2.A

namespace L2.A
open PySem PySem.Spec PyProof.Rows
section
variable {K : PySem.W.Frag} {σ : St} {H : Hp} {D : Ends} {Q : VK} {ta tv : TE} {f : Str} {a C dx : Addr} {fs fs' : List (Str × V)} {v z : V} {rd : V → V → Hp → VK → Prop}
def AStW (C : Addr) (f : Str) (a : Addr) (D : Ends) (σ : St) (z : V) (H3 : Hp) : Prop := ∃ dx' fs', H3 a = some (.ins C dx' fs') ∧ fs'.length < 1000 ∧ D.nx σ (upd H3 a (.ins C dx' (putF f z fs')))
theorem go_faug (h : ta σ H fun x H1 => AFldW K f tv rd D σ x H1) : sFldAug K ta tv rd f D σ H := h
theorem go_faugW (hp : H a = some (.ins C dx fs)) (c : Cls K C) (n : NoAttr K C f) (l : fs.lookup f = some v) (h : tv σ H fun y H2 => rd v y H2 fun z H3 => AStW C f a D σ z H3) : AFldW K f tv rd D σ (.ref a) H := ⟨a, C, dx, fs, v, rfl, hp, c, n, l, h⟩
theorem go_astW (hp : H a = some (.ins C dx fs)) (s : Nat.ble fs.length 900 = true) (e : putF f z fs = fs') (h : D.nx σ (upd H a (.ins C dx fs'))) : AStW C f a D σ z H := ⟨dx, fs, hp, Nat.lt_of_le_of_lt (Nat.le_of_ble_eq_true s) (by decide), by rw [e]; exact h⟩
theorem go_rAdd {i j : Int} (h : Q (.int (i + j)) H) : rAdd (.int i) (.int j) H Q := ⟨i, j, rfl, rfl, h⟩
theorem go_rSub {i j : Int} (h : Q (.int (i - j)) H) : rSub (.int i) (.int j) H Q := ⟨i, j, rfl, rfl, h⟩
end
end L2.A

namespace L2.A
open PySem PySem.Spec PyProof.Rows
section
variable {X : Cx} {K : PySem.W.Frag} {σ : St} {H : Hp} {f : Str} {o : Expr} {ta : TE} {pos : Pos} {v : V} {QS : St → Hp → Prop} {a C dx : Addr} {fs fs' : List (Str × V)}
/-- o.f as a target -/
def GFldW (K : PySem.W.Frag) (f : Str) (v : V) (σ : St) (x : V) (H1 : Hp) (QS : St → Hp → Prop) : Prop := ∃ a C dx fs, x = .ref a ∧ H1 a = some (.ins C dx fs) ∧ Cls K C ∧ NoAttr K C f ∧ fs.length < 1000 ∧ QS σ (upd H1 a (.ins C dx (putF f v fs)))
def gFld (K : PySem.W.Frag) (ta : TE) (f : Str) : TG := fun v σ H QS => ta σ H fun x H1 => GFldW K f v σ x H1 QS
theorem pg_fld (ho : PE X o ta) : PG X (.Attribute o f pos) (gFld X.K ta f) := by
  refine ⟨fun pins s σ H v u Q I r h => ?_⟩
  rw [assign_Attribute]
  refine wpAny_bind (wpAny_holding (thn (ho.run pins s σ H _ I h) fun ov s1 ⟨x, H1, I1, r1, a, C, dx, fs, ex, ea, c, n, l, q⟩ => ?_))
  subst ex
  obtain rfl : ov = Value.ref a := r1
  refine wpAny_bind (wpAny_standAt ?_)
  refine wpAny_bind (wpAny_holding (setattr_ok I1 ea c n l r fun s2 I2 => ?_))
  exact wpAny_release ⟨σ, _, I2, q⟩
theorem go_gfld (h : ta σ H fun x H1 => GFldW K f v σ x H1 QS) : gFld K ta f v σ H QS := h
theorem go_gfldW (hp : H a = some (.ins C dx fs)) (c : Cls K C) (n : NoAttr K C f) (z : Nat.ble fs.length 900 = true) (e : putF f v fs = fs') (h : QS σ (upd H a (.ins C dx fs'))) : GFldW K f v σ (.ref a) H QS :=
  ⟨a, C, dx, fs, rfl, hp, c, n, Nat.lt_of_le_of_lt (Nat.le_of_ble_eq_true z) (by decide), by rw [e]; exact h⟩
end
end L2.A

namespace L2.A
open PySem PySem.Spec PyProof.Rows
/-- an instance or a dict: what may change -/
def isMut : HO → Prop
  | .ins _ _ _ => True
  | .dK _ => True
  | .lst _ => True
  | _ => False
theorem seqT_kp {K : PySem.W.Frag} {fp : Addr → Prop} {H H' : Hp} {q : Addr} {xs : List V} (h : SqT K H q xs) (k : Kp fp H H') (hn : ∀ a o, H a = some o → fp a → isMut o) : SqT K H' q xs := by
  rcases h with (h | ⟨o, h⟩) | h
  · exact .inl (.inl (k _ _ h fun f => (hn _ _ h f).elim))
  · exact .inl (.inr ⟨o, k _ _ h fun f => (hn _ _ h f).elim⟩)
  · exact .inr h
theorem Kp.imp {fp fp' : Addr → Prop} {H H' : Hp} (k : Kp fp H H') (h : ∀ a, fp a → fp' a) : Kp fp' H H' := fun a o e n => k a o e fun f => n (h a f)
end L2.A

namespace L2.A
open PySem PySem.Spec PyProof.Rows
section
variable {σ : St} {H : Hp} {Q : VK} {td ty tx : TE} {a : Addr} {kvs : List (Key × V)} {z : V} {s : Str}
/-! ### d.get(k, x) -/
def Dg2W (ty tx : TE) (σ : St) (x : V) (H1 : Hp) (Q : VK) : Prop := ∃ a, x = .ref a ∧ IsD H1 a ∧ ty σ H1 fun y H2 => tx σ H2 fun z H3 => ∃ o, DGet H3 a y o ∧ Q (o.getD z) H3
def Dg2K (a : Addr) (y z : V) (H3 : Hp) (Q : VK) : Prop := ∃ o, DGet H3 a y o ∧ Q (o.getD z) H3
theorem go_dget2 (h : td σ H fun x H1 => Dg2W ty tx σ x H1 Q) : tDGet2 td ty tx σ H Q := h
theorem go_dg2W (hp : IsD H a) (h : ty σ H fun y H2 => tx σ H2 fun z H3 => Dg2K a y z H3 Q) : Dg2W ty tx σ (.ref a) H Q := ⟨a, rfl, hp, h⟩
theorem go_dg2S (hp : H a = some (.dK kvs)) (h : Q ((valV kvs (Sum.inr s)).getD z) H) : Dg2K a (.str s) z H Q := ⟨_, DGet.k (k := Sum.inr s) hp, h⟩
end
end L2.A

namespace L2.A
open PySem PySem.Spec PyProof.Rows
theorem pe_fldK {X : Cx} {K : PySem.W.Frag} {e : Expr} {f : Str} {pos : Pos} {ta : TE} (hK : X.K = K) (he : PE X e ta) (hb : attributeBase e f X.env (eval e X.env) = eval e X.env) : PE X (.Attribute e f pos) (tFld K ta f) := hK ▸ pe_fld he hb
end L2.A

namespace L2.A
open PySem PySem.Spec PyProof.Rows
theorem go_dnewK {σ : St} {H : Hp} {Q : VK} (h : NewO (.dK []) H Q) : tDNewK σ H Q := h
end L2.A


namespace L2.A
open PySem PySem.Spec PyProof.Rows
/-! ### calls that may raise: what is raised is wished for at the caller's slots -/
section
variable {X : Cx} {CX : CXT} {k : Nat} {ps : List Str} {dvs : List V} {sp : Sp} {E : St → XK} {x m : Str} {p apos pos : Pos} {o e : Expr} {es : List Expr} {t : TA} {ta : TE} {C : Addr}
def tMethS (C : Addr) (m : Str) (sp : Sp) (dvs : List V) (E : St → XK) (ta : TE) (t : TA) : TE := fun σ H Q => ta σ H fun x H1 => ∃ a dx fs, x = .ref a ∧ H1 a = some (.ins C dx fs) ∧ fs.lookup m = none ∧
  t σ H1 fun vs H2 => sp (x :: (vs ++ dvs)) H2 Q (E σ)
theorem pe_dS (D : Dn X.prog X.w X.K X.mg X.base CX k x ps dvs sp) (hr : Room k X.A) (hg : Gl X x) (hx : ∀ σ, PassesAt CX X σ (E σ)) (ha : PA X (e :: es) t) (hdb : (x == ("__debug__" : Str)) = false := by decide)
    (he : starEach (e :: es) X.env = (false, eval e X.env) :: starEach es X.env := by rfl) (hpl : (backTo pos (starEach es X.env)).any (·.1) = false := by rfl) : PE X (.Call (.Name x p) (e :: es) [] pos) (tCallSD sp dvs E t) := by
  obtain ⟨f, fd, ds, F, hm, hk, hb, hv⟩ := D.ex
  exact pe_callSD F hr hg hm hk hb hv hx ha hdb he hpl
theorem pe_mthS {pl : Sem Bool} (D : MtD X.prog X.w X.K X.mg X.base CX k C m ps dvs sp) (hr : Room k X.A) (hx : ∀ σ, PassesAt CX X σ (E σ)) (he : PE X o ta) (ha : PA X (e :: es) t)
    (hst : starEach (e :: es) X.env = (false, eval e X.env) :: starEach es X.env := by rfl) (hpl : (backTo pos (starEach es X.env)).any (·.1) = false := by rfl)
    (ht : eval (.Call (.Attribute o m apos) (e :: es) [] pos) X.env = (do
      let ov ← eval o X.env
      standAt apos.atName
      let (f, first) ← holding [ov] (getMethod ov m pl)
      callWith pos f first (backTo pos (starEach (e :: es) X.env)) (backToKw pos (keywordEach [] X.env))) := by rfl) : PE X (.Call (.Attribute o m apos) (e :: es) [] pos) (tMethS C m sp dvs E ta t) := by
  obtain ⟨f, fd, ds, F, hm, c, hb, hd⟩ := D.ex
  refine ⟨fun pins s σ H Q I h => ?_⟩
  refine PySem.W.methodCall_KW (pl := pl) (thn (he.run pins s σ H _ I h) fun u s1 ⟨x, H1, I1, rx, a, dx, fs, ex, ea, l, q⟩ => ?_) ht
  subst ex
  obtain rfl : u = Value.ref a := rx
  refine getmeth_ok I1 ea c hm l ?_
  refine PySem.W.callWith_K (first := [.ref a]) (h₀ := X.base) I.ok.mod.kin hm.kp (thn (ha.run pos pins s1 σ H1 _ I1 q) fun us s2 ⟨vs, H2, I2, r, q2⟩ => ⟨I2.kIn, ?_⟩) hst hpl
  exact run_fnSD (us := .ref a :: us) (vs := .ref a :: vs) F hr hb hd (hx σ) I2 (.cons rfl r) q2
end
section
variable {K : PySem.W.Frag} {σ : St} {H : Hp} {Q : VK} {E : St → XK} {sp : Sp} {dvs : List V} {t : TA} {ta : TE} {C a dx : Addr} {m : Str} {fs : List (Str × V)}
theorem go_callS (h : t σ H fun vs H1 => sp (vs ++ dvs) H1 Q (E σ)) : tCallSD sp dvs E t σ H Q := h
def MethSW (C : Addr) (m : Str) (sp : Sp) (dvs : List V) (E : XK) (t : TA) (σ : St) (x : V) (H1 : Hp) (Q : VK) : Prop := ∃ a dx fs, x = .ref a ∧ H1 a = some (.ins C dx fs) ∧ fs.lookup m = none ∧ t σ H1 fun vs H2 => sp (x :: (vs ++ dvs)) H2 Q E
theorem go_methS (h : ta σ H fun x H1 => MethSW C m sp dvs (E σ) t σ x H1 Q) : tMethS C m sp dvs E ta t σ H Q := h
theorem go_methSW {E : XK} (hp : H a = some (.ins C dx fs)) (l : fs.lookup m = none) (h : t σ H fun vs H2 => sp (.ref a :: (vs ++ dvs)) H2 Q E) : MethSW C m sp dvs E t σ (.ref a) H Q := ⟨a, dx, fs, rfl, hp, l, h⟩
end
/-! ### an own exception class with its own __init__ -/
structure XkD (P : Program) (w : World) (K : PySem.W.Frag) (mg : Str → Option Value) (base : Heap) (k : Nat) (C : Addr) (x : Str) (ps : List Str) (dvs : List V) (sp : Sp) : Prop where
  ex : ∃ (fI : Addr) (fd : FuncData) (ds : List Value), FnOk P w K mg base CX0 k fI fd ps sp ∧ OexC K C ∧ PySem.W.findIn K (.ref C) "__init__" = some (some (.ref fI)) ∧ PySem.W.typeIn K (.ref fI) = some (.type "function") ∧ mg x = some (.ref C) ∧ Binds K fd ps ds ∧ Vals dvs ds
section
variable {X : Cx} {k : Nat} {ps : List Str} {dvs : List V} {sp : Sp} {x : Str} {p pos : Pos} {e : Expr} {es : List Expr} {ta : TA} {C : Addr}
theorem pmk_x (D : XkD X.prog X.w X.K X.mg X.base k C x ps dvs sp) (hr : Room (k + 1) X.A) (hg : Gl X x) (ha : PA X (e :: es) ta) (hdb : (x == ("__debug__" : Str)) = false := by decide)
    (he : starEach (e :: es) X.env = (false, eval e X.env) :: starEach es X.env := by rfl) (hpl : (backTo pos (starEach es X.env)).any (·.1) = false := by rfl) : PMk X (.Call (.Name x p) (e :: es) [] pos) (tMkO C sp dvs ta) := by
  obtain ⟨fI, fd, ds, F, T, iC, tI, hm, hb, hv⟩ := D.ex
  exact pmk_oex T iC tI F hr hb hv pass0 hg hm ha hdb he hpl
end
/-- the __init__ of an exception class: it leaves the fields fs -/
def IniW (C : Addr) (fs : List (Str × V)) (a0 : V) (H : Hp) (Q : VK) : Prop := ∃ a, a0 = .ref a ∧ OexA C a H ∧ ∀ d H', H d = none → Kp (fun x => x = a) H H' → H' a = some (exo a C (some d)) → H' d = some (exd d fs) → Q .non H'
where OexA (C a : Addr) (H : Hp) : Prop := H a = some (exo a C none)
section
variable {K : PySem.W.Frag} {σ : St} {H : Hp} {D : Ends} {Q : VK} {t : TA} {ta te to : TE} {C a dx : Addr} {f : Str} {fs : List (Str × V)} {y : V}
def VeIW (K : PySem.W.Frag) (vs : List V) (H1 : Hp) (Q : VK) : Prop := ∃ (a C : Addr) (ws : List V), vs = .ref a :: ws ∧ ws.length ≤ 1000 ∧ OexC K C ∧ H1 a = some (exo a C none) ∧ Q .non H1
theorem go_veI (h : t σ H fun vs H1 => VeIW K vs H1 Q) : tVeI K t σ H Q := h
theorem go_veIW {ws : List V} (T : OexC K C) (ha : H a = some (exo a C none)) (z : Nat.ble ws.length 1000 = true) (h : Q .non H) : VeIW K (.ref a :: ws) H Q := ⟨a, C, ws, rfl, Nat.le_of_ble_eq_true z, T, ha, h⟩
def OstW (K : PySem.W.Frag) (f : Str) (y : V) (D : Ends) (σ : St) (x : V) (H2 : Hp) : Prop := ∃ a C : Addr, x = .ref a ∧ OexC K C ∧ PySem.W.findIn K (.ref C) f = some none ∧
  ((H2 a = some (exo a C none) ∧ ∀ dx, H2 dx = none → dx ≠ a → D.nx σ (upd (upd H2 dx (exd dx [(f, y)])) a (exo a C (some dx)))) ∨
    ∃ (dx : Addr) (fs : List (Str × V)), H2 a = some (exo a C (some dx)) ∧ H2 dx = some (exd dx fs) ∧ fs.length ≤ 900 ∧ D.nx σ (upd H2 dx (exd dx ((f, y) :: fs))))
theorem go_ost (h : te σ H fun y H1 => to σ H1 fun x H2 => OstW K f y D σ x H2) : tOst K f to te D σ H := h
theorem go_ost1 (T : OexC K C) (n : PySem.W.findIn K (.ref C) f = some none) (ha : H a = some (exo a C none))
    (h : ∀ d H', H d = none → Kp (fun x => x = a) H H' → H' a = some (exo a C (some d)) → H' d = some (exd d [(f, y)]) → D.nx σ H') : OstW K f y D σ (.ref a) H :=
  ⟨a, C, rfl, T, n, .inl ⟨ha, fun d hd ne => h d _ hd (fun b o e n => by rw [upd_ne n, upd_ne (ne_of_none e hd)]; exact e) upd_same (by rw [upd_ne ne]; exact upd_same)⟩⟩
theorem go_ost2 (T : OexC K C) (n : PySem.W.findIn K (.ref C) f = some none) (ha : H a = some (exo a C (some dx))) (hd : H dx = some (exd dx fs)) (z : Nat.ble fs.length 900 = true)
    (h : ∀ H', (∀ b o, H b = some o → b ≠ dx → H' b = some o) → H' a = some (exo a C (some dx)) → H' dx = some (exd dx ((f, y) :: fs)) → D.nx σ H') : OstW K f y D σ (.ref a) H := by
  refine ⟨a, C, rfl, T, n, .inr ⟨dx, fs, ha, hd, Nat.le_of_ble_eq_true z, h _ (fun b o e n => by rw [upd_ne n]; exact e) ?_ upd_same⟩⟩
  by_cases e : a = dx
  · subst e
    rw [ha] at hd
    have z := Option.some.inj hd
    unfold exo exd at z
    have z2 := HO.ext.inj z
    have z3 : (fun h : Heap => ∃ t1 : Addr, h.get? a = some ({ cls := .ref C, dict := some a, data := .fields #[.ref t1, .none, .none, .none, .bool false, .none] } : Obj)) = fun h => ∃ mA, h.Ns1 a mA ∧ ∀ f, RelO (fs.lookup f) (mA f) := z2
    rw [upd_same]
    unfold exo exd
    exfalso
    have hp : ∃ h : Heap, ∃ t1 : Addr, h.get? a = some ({ cls := .ref C, dict := some a, data := .fields #[.ref t1, .none, .none, .none, .bool false, .none] } : Obj) := ⟨⟨Array.replicate (a + 1) { cls := .ref C, dict := some a, data := .fields #[.ref 0, .none, .none, .none, .bool false, .none] }, {}⟩, 0, by simp [Heap.get?]⟩
    obtain ⟨h, t1, e1⟩ := hp
    have q : ∃ mA, h.Ns1 a mA ∧ ∀ f, RelO (fs.lookup f) (mA f) := by
      have q := congrFun z3 h
      exact q ▸ ⟨t1, e1⟩
    obtain ⟨mA, ⟨o, es, ep, e2, e3, _⟩, _⟩ := q
    rw [e1] at e2
    have e4 := Option.some.inj e2
    subst e4
    cases e3
  · rw [upd_ne e]; exact ha
end
def MkOW (C : Addr) (sp : Sp) (dvs vs : List V) (H1 : Hp) (Q : XK) : Prop := vs.length ≤ 1000 ∧ ∀ a, H1 a = none → sp (.ref a :: (vs ++ dvs)) (upd H1 a (exo a C none))
  (fun v H2 => v = .non ∧ ∃ (d : Addr) (fs : List (Str × V)), H2 a = some (exo a C (some d)) ∧ H2 d = some (exd d fs) ∧ H1 d = none ∧ Q (.ref C) (some d) (upd (del H2 a) d (.xd fs))) (fun _ _ _ => False)
theorem go_mkO {C : Addr} {sp : Sp} {dvs : List V} {t : TA} {σ : St} {H : Hp} {Q : XK} (h : t σ H fun vs H1 => MkOW C sp dvs vs H1 Q) : tMkO C sp dvs t σ H Q := h
theorem go_mkOW {C : Addr} {sp : Sp} {dvs vs : List V} {H1 : Hp} {Q : XK} (fs : List (Str × V)) (z : Nat.ble vs.length 1000 = true)
    (hsp : ∀ a H Q, IniW C fs (.ref a) H Q → sp (.ref a :: (vs ++ dvs)) H Q (fun _ _ _ => False))
    (h : ∀ d H', H1 d = none → Same H1 H' → H' d = some (.xd fs) → Q (.ref C) (some d) H') : MkOW C sp dvs vs H1 Q := by
  refine ⟨Nat.le_of_ble_eq_true z, fun a ha => hsp a _ _ ⟨a, rfl, upd_same, fun d H' hd k ea ed => ⟨rfl, d, fs, ea, ed, upd_free hd, ?_⟩⟩⟩
  refine h d _ (upd_free hd) (fun b o e => ?_) upd_same
  have nb : b ≠ a := ne_of_none e ha
  rw [upd_ne (ne_of_none e (upd_free hd)), del_ne nb]
  exact k b o (by rw [upd_ne nb]; exact e) nb
/-! ### isinstance of a caught exception -/
structure ExcD (K : PySem.W.Frag) (D : Addr) : Prop where
  cl : (PySem.W.clsIn K D).isSome = true
  hg : PySem.W.findIn K (.ref D) "__getattribute__" = some (some (.builtin "BaseException.__getattribute__"))
  hk : PySem.W.findIn K (.ref D) "__getattr__" = some none
  hs : PySem.W.subIn K (.ref D) (.type "BaseException") = some true
  ha : PySem.W.findIn K (.ref D) "__class__" = some (some (.builtin "object.__class__"))
  hn : PySem.W.specialIn K (.builtin "object.__class__") "__get__" = some (some (.builtin "getset_descriptor.__get__"))
  ht : PySem.W.takesIn K (.builtin "object.__class__") = some true
  hm : PySem.W.mroIn K D (.type "object") = some true
  hd : PySem.W.hasDictIn K D = true
def excDB (K : PySem.W.Frag) (D : Addr) : Bool := (PySem.W.clsIn K D).isSome && (decide (PySem.W.findIn K (.ref D) "__getattribute__" = some (some (.builtin "BaseException.__getattribute__"))) && (decide (PySem.W.findIn K (.ref D) "__getattr__" = some none) && (decide (PySem.W.subIn K (.ref D) (.type "BaseException") = some true) &&
  (decide (PySem.W.findIn K (.ref D) "__class__" = some (some (.builtin "object.__class__"))) && (decide (PySem.W.specialIn K (.builtin "object.__class__") "__get__" = some (some (.builtin "getset_descriptor.__get__"))) && (decide (PySem.W.takesIn K (.builtin "object.__class__") = some true) && (decide (PySem.W.mroIn K D (.type "object") = some true) && PySem.W.hasDictIn K D)))))))
theorem excDB_ok {K : PySem.W.Frag} {D : Addr} (h : excDB K D = true) : ExcD K D := by
  unfold excDB at h
  simp only [Bool.and_eq_true] at h
  obtain ⟨h0, h1, h2, h3, h4, h5, h6, h7, h8⟩ := h
  exact ⟨h0, of_decide_eq_true h1, of_decide_eq_true h2, of_decide_eq_true h3, of_decide_eq_true h4, of_decide_eq_true h5, of_decide_eq_true h6, of_decide_eq_true h7, h8⟩
theorem ExcD.xf {K : PySem.W.Frag} {D : Addr} (h : ExcD K D) : XfC K D := ⟨h.hg, h.hk, h.hs, h.hd⟩
def rIsEX (K : PySem.W.Frag) (a : Addr) (cls : Value) (d : Option Addr) : List V → Hp → VK → Prop := fun xs H Q => ∃ (D dd : Addr) (fs : List (Str × V)), cls = .ref D ∧ d = some dd ∧ ExcD K D ∧ H dd = some (.xd fs) ∧
  ((∃ (c : V) (u : Value) (b : Bool), xs = [.ref a, c] ∧ ClsV c u ∧ PySem.W.kitOne K cls u = some b ∧ Q (.bl b) H) ∨
    ∃ (tp : Addr) (cs : List V) (us : List Value) (b : Bool), xs = [.ref a, .ref tp] ∧ H tp = some (.tup cs) ∧ Paired ClsV cs us ∧ PySem.W.kitAny K cls us = some b ∧ Q (.bl b) H)
theorem call_isEX {X : Cx} {a : Addr} {cls : Value} {d : Option Addr} {oe : Obj} {pn : List (Addr × Obj)} (hz : Zc cls d oe) (hf : ∃ vs, oe.data = .fields vs) : CallR (X.suite a ((a, oe) :: pn)) (.builtin "isinstance") (rIsEX X.K a cls d) := by
  intro pins s σ H xs us Q I r h
  obtain ⟨D, dd, fs, rfl, rfl, C, ed, h⟩ := h
  obtain ⟨hget, _⟩ := I.pin (a, oe) (List.mem_append.mpr (.inl List.mem_cons_self))
  obtain ⟨vs, hv⟩ := hf
  have hx : ObjOk X.prog X.w H s.heap dd (.xd fs) := I.hok dd _ ed
  obtain ⟨mA, hns, hr⟩ := hx
  obtain ⟨od, ho, hl⟩ := lookIn_ns hns
  have J : PySem.W.InstAt s.heap a oe D (some od) := ⟨hget, hz.1, by unfold PySem.W.notCls; rw [hv] <;> rfl, by rw [hz.2]; exact ho⟩
  have Z := PySem.W.kitx_exc (K := X.K) (x := a) (C := D) (ox := oe) (od := some od) C.cl C.hg C.hk C.hs C.ha C.hn C.ht C.hm
  rcases h with ⟨c, u, b, rfl, k, e, q⟩ | ⟨tp, cs, ws, b, rfl, hT, k, e, q⟩
  · obtain ⟨u1, u2, rfl, r1, r2⟩ := vals2 r
    cases (show u1 = Value.ref a from r1)
    have e2 := k.eq r2
    subst e2
    exact PySem.W.kia_one Z I.kIn J e (fun z => nomatch z) fun tk => ⟨.bl b, H, I.tok tk, rfl, q⟩
  · obtain ⟨u1, u2, rfl, r1, r2⟩ := vals2 r
    cases (show u1 = Value.ref a from r1)
    cases (show u2 = Value.ref tp from r2)
    obtain ⟨_, its, rv, o, h1, h2, n, h3⟩ := (show ObjOk X.prog X.w H s.heap tp (.tup cs) from I.hok tp _ hT)
    have e3 := ClsV.all k rv
    subst e3
    obtain ⟨oc, od2, dt, sl⟩ := o
    simp only at h2 h3
    subst h2 h3
    exact PySem.W.kia_tup Z I.kIn J h1 e (fun z => nomatch z) fun tk => ⟨.bl b, H, I.tok tk, rfl, q⟩
theorem call_isEK {X : Cx} {K : PySem.W.Frag} {a : Addr} {cls : Value} {d : Option Addr} {oe : Obj} {pn : List (Addr × Obj)} (hK : X.K = K) (hz : Zc cls d oe) (hf : ∃ vs, oe.data = .fields vs) : CallR (X.suite a ((a, oe) :: pn)) (.builtin "isinstance") (rIsEX K a cls d) := hK ▸ call_isEX hz hf
section
variable {K : PySem.W.Frag} {a D dd tp : Addr} {fs : List (Str × V)} {H : Hp} {Q : VK} {c : V} {cs : List V} {u : Value} {us : List Value} {b : Bool}
theorem go_isE1 (C : ExcD K D) (ed : H dd = some (.xd fs)) (k : ClsV c u) (e : PySem.W.kitOne K (.ref D) u = some b) (h : Q (.bl b) H) : rIsEX K a (.ref D) (some dd) [.ref a, c] H Q := ⟨D, dd, fs, rfl, rfl, C, ed, .inl ⟨c, u, b, rfl, k, e, h⟩⟩
theorem go_isET (C : ExcD K D) (ed : H dd = some (.xd fs)) (hT : H tp = some (.tup cs)) (k : Paired ClsV cs us) (e : PySem.W.kitAny K (.ref D) us = some b) (h : Q (.bl b) H) : rIsEX K a (.ref D) (some dd) [.ref a, .ref tp] H Q := ⟨D, dd, fs, rfl, rfl, C, ed, .inr ⟨tp, cs, us, b, rfl, hT, k, e, h⟩⟩
/-! ### err.f -/
def XfW (a : Addr) (cls : Value) (d : Option Addr) (C : Addr) (f : Str) (x : V) (H1 : Hp) (Q : VK) : Prop := x = .ref a ∧ cls = .ref C ∧ ∃ (dd : Addr) (fs : List (Str × V)) (v : V), d = some dd ∧ H1 dd = some (.xd fs) ∧ fs.lookup f = some v ∧ Q v H1
theorem go_xf {cls : Value} {d : Option Addr} {C : Addr} {f : Str} {te : TE} {σ : St} (h : te σ H fun x H1 => XfW a cls d C f x H1 Q) : tXf a cls d C f te σ H Q := h
theorem go_xfW {f : Str} {v : V} (ed : H dd = some (.xd fs)) (l : fs.lookup f = some v) (h : Q v H) : XfW a (.ref D) (some dd) D f (.ref a) H Q := ⟨rfl, rfl, dd, fs, v, rfl, ed, l, h⟩
/-! ### try -/
def CatchW (K : PySem.W.Frag) (c : Value) (ts : Addr → Value → Option Addr → St → Hp → Prop) (out : Value → Option Addr → St → Hp → Prop) : WX := fun cls d σ H => ∃ b, PySem.W.exmOne K cls c = some b ∧ (b = true → ∀ a, H a = none → ts a cls d σ H) ∧ (b = false → out cls d σ H)
theorem go_caught {cls c : Value} {d : Option Addr} {i : Nat} {ts : Addr → Value → Option Addr → TS} {Wout : WX} {Dd : Ends} {σ : St} (e : PySem.W.exmOne K cls c = some true)
    (h : ∀ a, H a = none → ts a cls d { nx := fun σ' H' => Dd.nx (σ'.set i none) H', rt := Dd.rt, bk := fun σ' H' => Dd.bk (σ'.set i none) H', ct := fun σ' H' => Dd.ct (σ'.set i none) H' } (σ.set i (some (.ref a))) H) : WE (wAs K c i ts Wout Dd) σ cls d H :=
  ⟨true, e, fun _ => h, fun z => by cases z⟩
theorem go_caught1 {cls c : Value} {d : Option Addr} {ts : Addr → Value → Option Addr → TS} {Wout : WX} {Dd : Ends} {σ : St} (e : PySem.W.exmOne K cls c = some true) (h : ∀ a, H a = none → ts a cls d Dd σ H) : WE (wOnly K c ts Wout Dd) σ cls d H :=
  ⟨true, e, fun _ => h, fun z => by cases z⟩
theorem go_passed {cls c : Value} {d : Option Addr} {i : Nat} {ts : Addr → Value → Option Addr → TS} {Wout : WX} {Dd : Ends} {σ : St} (e : PySem.W.exmOne K cls c = some false) (h : Wout cls d σ H) : WE (wAs K c i ts Wout Dd) σ cls d H :=
  ⟨false, e, (fun z => by cases z), fun _ => h⟩
end
end L2.A

namespace L2.A
open PySem PySem.Spec PyProof.Rows
/-! ### err.f of whatever class -/
def tXfG (K : PySem.W.Frag) (a : Addr) (cls : Value) (d : Option Addr) (f : Str) (te : TE) : TE := fun σ H Q => te σ H fun x H1 => x = .ref a ∧ ∃ (C dd : Addr) (fs : List (Str × V)) (v : V), cls = .ref C ∧ XfC K C ∧ PySem.W.findIn K (.ref C) f = some none ∧ d = some dd ∧ H1 dd = some (.xd fs) ∧ fs.lookup f = some v ∧ Q v H1
theorem pe_xfG {X : Cx} {K : PySem.W.Frag} {a : Addr} {oe : Obj} {cls : Value} {d : Option Addr} {pn : List (Addr × Obj)} {e : Expr} {te : TE} {pos : Pos} {n : Str} (hK : X.K = K)
    (hz : Zc cls d oe) (hf : ∃ vs, oe.data = .fields vs) (he : PE (X.suite a ((a, oe) :: pn)) e te) (hb : attributeBase e n X.env (eval e X.env) = eval e X.env := by rfl) :
    PE (X.suite a ((a, oe) :: pn)) (.Attribute e n pos) (tXfG K a cls d n te) := by
  subst hK
  refine ⟨fun pins s σ H Q I h => ?_⟩
  refine attr_of hb (thn (he.run pins s σ H _ I h) fun u s1 hh => ?_)
  obtain ⟨x, H1, I1, rx, ex, C, dd, fs, v, ec, T, hno, ed, ea, l, q⟩ := hh
  subst ex
  obtain rfl : u = Value.ref a := rx
  subst ec
  subst ed
  obtain ⟨ha, _⟩ := I1.pin (a, oe) (List.mem_append_left _ List.mem_cons_self)
  obtain ⟨vs, hd⟩ := hf
  have hx : ObjOk X.prog X.w H1 s1.heap dd (.xd fs) := I1.hok dd _ ea
  obtain ⟨mA, hns, hr⟩ := hx
  obtain ⟨od, ho, hl⟩ := lookIn_ns hns
  obtain ⟨u, hu, ru⟩ := RelO.some_of (v := v) (o := mA n) (by rw [← l]; exact hr n)
  have J : PySem.W.InstAt s1.heap a oe C (some od) := ⟨ha, hz.1, by unfold PySem.W.notCls; rw [hd] <;> rfl, by rw [hz.2]; exact ho⟩
  exact HandSPX.exc_get I1.kIn J T.ga T.gg T.exC (PySem.W.findObj_own T.hdC hno rfl (by rw [hl, hu])) (handed_of ru) ⟨v, H1, I1.tok _, ru, q⟩
section
variable {K : PySem.W.Frag} {a D dd : Addr} {fs : List (Str × V)} {H : Hp} {Q : VK}
def XfGW (K : PySem.W.Frag) (a : Addr) (cls : Value) (d : Option Addr) (f : Str) (x : V) (H1 : Hp) (Q : VK) : Prop := x = .ref a ∧ ∃ (C dd : Addr) (fs : List (Str × V)) (v : V), cls = .ref C ∧ XfC K C ∧ PySem.W.findIn K (.ref C) f = some none ∧ d = some dd ∧ H1 dd = some (.xd fs) ∧ fs.lookup f = some v ∧ Q v H1
theorem go_xfG {cls : Value} {d : Option Addr} {f : Str} {te : TE} {σ : St} (h : te σ H fun x H1 => XfGW K a cls d f x H1 Q) : tXfG K a cls d f te σ H Q := h
theorem go_xfGW {f : Str} {v : V} (T : XfC K D) (n : PySem.W.findIn K (.ref D) f = some none) (ed : H dd = some (.xd fs)) (l : fs.lookup f = some v) (h : Q v H) : XfGW K a (.ref D) (some dd) f (.ref a) H Q := ⟨rfl, D, dd, fs, v, rfl, T, n, rfl, ed, l, h⟩
end
end L2.A

namespace L2.A
open PySem PySem.Spec PyProof.Rows
/-! ### a caught or made exception as an object that is tracked -/
def exq (a : Addr) (cls : Value) (d : Option Addr) : HO := .ext fun h => ∃ oe vs, h.get? a = some oe ∧ Zc cls d oe ∧ oe.data = .fields vs
theorem exq_ok {P : Program} {w : World} {H : Hp} {h : Heap} {a : Addr} {cls : Value} {d : Option Addr} {oe : Obj} {vs : Array Value} (he : h.get? a = some oe) (hz : Zc cls d oe) (hd : oe.data = .fields vs) : ObjOk P w H h a (exq a cls d) :=
  ⟨⟨oe, vs, he, hz, hd⟩, ⟨oe, he⟩, fun h1 h2 z k => by
    obtain ⟨oe, vs, e, z, q⟩ := z
    exact ⟨oe, vs, k _ e, z, q⟩⟩
theorem exq_at {P : Program} {w : World} {H : Hp} {h : Heap} {a : Addr} {cls : Value} {d : Option Addr} (hok : HOk P w H h) (he : H a = some (exq a cls d)) : ∃ oe vs, h.get? a = some oe ∧ Zc cls d oe ∧ oe.data = .fields vs := by
  have x : ObjOk P w H h a (.ext fun h => ∃ oe vs, h.get? a = some oe ∧ Zc cls d oe ∧ oe.data = .fields vs) := hok a _ he
  exact x.1
section
variable {X : Cx} {pins : List (Addr × Obj)} {σ : St} {H : Hp} {sI s s' : Shared} {B : Heap} {a : Addr} {cls : Value} {d : Option Addr} {oe : Obj} {vs : Array Value}
theorem Inv.landedX (I : Inv X pins σ H sI) (nb : ∀ b o, sI.heap.get? b = some o → b ∉ frs X.stack → B.get? b = some o) (st : B.StaysIn s'.heap) (up : sI.heap.UpToSlots s'.heap) (os : s'.os = sI.os) (ag : AllBare s'.gens)
    (hB : B.get? a = none) (nfr : a ∉ frs X.stack) (he : s'.heap.get? a = some oe) (hz : Zc cls d oe) (hd : oe.data = .fields vs) (na : H a = none) : Inv X pins σ (upd H a (exq a cls d)) s' := by
  have nf : ∀ b ∈ frs X.stack, ∀ o, sI.heap.get? b = some o → ∃ sl, s'.heap.get? b = some { o with slots := sl } := fun b hb o e => by
    obtain ⟨_, o', e', hd⟩ := I.stack.mem hb
    rw [e] at e'; cases e'
    exact up b o e hd
  have ne : ∀ b o, sI.heap.get? b = some o → b ≠ a := fun b o e z => by
    subst z
    have q := nb b o e nfr
    rw [hB] at q; cases q
  have hok0 : HOk X.prog X.w H s'.heap := (I.inGround nb).kept st
  have hok : HOk X.prog X.w (upd H a (exq a cls d)) s'.heap := fun b o q => by
    by_cases hb : b = a
    · subst hb
      rw [upd_same] at q
      cases q
      exact exq_ok he hz hd
    · rw [upd_ne hb] at q
      exact (hok0 b o q).stay (fun c u _ r => r) (fun c r => by rw [upd_ne (ne_of_none r na)]; exact r) fun c xs r => by rw [upd_ne (ne_of_none r na)]; exact r
  have J := I.call (ch := []) (h' := s'.heap) (g' := s'.gens) (t' := s'.toks) (d' := s'.drawn) (H' := upd H a (exq a cls d))
    ⟨fun b o e _ hb _ => st b o (nb b o e hb), fun b o e _ hb _ => nf b hb o e, fun b o e n _ => by rw [upd_ne (ne b o e)]; exact n, fun b o e _ => by
      by_cases hb : b ∈ frs X.stack
      · obtain ⟨sl, q⟩ := nf b hb o e
        exact ⟨_, q⟩
      · exact ⟨o, st b o (nb b o e hb)⟩, fun b xs e => by rw [upd_ne (ne_of_none e na)]; exact e, fun b _ _ e => by rw [upd_ne (ne_of_none e na)]; exact e, fun b ps e => ⟨#[], by rw [upd_ne (ne_of_none e na), e]; simp⟩⟩
    hok ag (fun _ z => nomatch z)
  obtain ⟨a1, a2, a3, a4, a5⟩ := s'
  have e5 : a5 = sI.os := os
  subst e5
  exact J
theorem Inv.suiteX (I : Inv X pins σ H s) (a : Addr) : Inv (X.suite a (X.pn ++ pins)) [] σ H s :=
  ⟨I.ok.suite _ _, I.os, I.bare, I.base, I.loc, I.cell, I.free, I.freeC, fun p hp => I.pin p (by rw [List.append_nil] at hp; exact hp), I.hok, I.len⟩
theorem Inv.unsuiteX {a : Addr} {pn' : List (Addr × Obj)} (I : Inv (X.suite a (X.pn ++ pins)) pn' σ H s) (ok : X.Ok) : Inv X pins σ H s :=
  ⟨ok, I.os, I.bare, I.base, I.loc, I.cell, I.free, I.freeC, fun p hp => I.pin p (List.mem_append_left _ hp), I.hok, I.len⟩
end
/-- what the clause wishes: n's slot holds the exception, which is tracked from then on -/
def wAsX (K : PySem.W.Frag) (c : Value) (i : Nat) (ts : Addr → Value → Option Addr → TS) (Wout : WX) (D : Ends) : WX := fun cls d σ H =>
  ∃ b, PySem.W.exmOne K cls c = some b ∧ (b = true → ∀ a, H a = none → ts a cls d { nx := fun σ' H' => D.nx (σ'.set i none) H', rt := D.rt, bk := fun σ' H' => D.bk (σ'.set i none) H', ct := fun σ' H' => D.ct (σ'.set i none) H' } (σ.set i (some (.ref a))) (upd H a (exq a cls d))) ∧
    (b = false → Wout cls d σ H)
section
variable {X : Cx} {x n : Str} {c : Value} {i : Nat} {body suite : List Stmt} {b₀ : Stmt} {np pos pos' : Pos} {tb : WX → TS} {ts : Addr → Value → Option Addr → TS} {Wout : WX}
theorem ps_try_asX (hs : X.stack = X.env :: X.outer) (hf : X.env.frame = some X.env.locals) (hN : X.N.Nodup) (hi : X.N[i]? = some n) (hln : X.env.kindOf n = some .local) (hc : Names X x c) (tk : Takes X Wout)
    (hb : ∀ (W : WX) (pn : List (Addr × Obj)) (xe : Value → Shared → Prop), Takes (X.tr pn xe) W → PassesOwn (model X.prog X.w) X.A X.env xe → PSs (X.tr pn xe) body (tb W))
    (hsu : ∀ (a : Addr) (cls : Value) (d : Option Addr) (pn : List (Addr × Obj)), PSs (X.suite a pn) (b₀ :: suite) (ts a cls d)) :
    PS X (.Try body [.ExceptHandler (some (.Name x np)) (some n) (b₀ :: suite) pos'] [] [] pos) (fun D σ H => tb (wAsX X.K c i ts Wout D) D σ H) := by
  refine ⟨fun pins s σ H D I h => ?_⟩
  have ok := I.ok
  have hfr : X.A.frames = some (X.env :: X.outer) := by rw [ok.frames, hs]
  have hloc : Loc X.env.scope n := .inl hln
  refine wpAny_Try_except ?_
  refine wpAny_mono ((hb (wAsX X.K c i ts Wout D) (X.pn ++ pins) (fun e s₁ => wpAny (model X.prog X.w) X.A (noteFrame e X.env) (fun _ s₂ => wpAny (model X.prog X.w) X.A (setFlight e none) (fun _ s₃ =>
    wpAny (model X.prog X.w) X.A (handleBy e X.env [.ExceptHandler (some (.Name x np)) (some n) (b₀ :: suite) pos']) (SP X pins D) X.xe s₃) X.xe s₂) X.xe s₁) (fun u s' xx => ?_) PassesOwn.looking).run [] s σ H D (I.toTry _) h) (fun f s1 hsp => ?_) (fun e s1 he => he)
  · -- the catch
    obtain ⟨a, B, sI, pins', σ', H', cls, d, rfl, J', nb, up, sky, na, os, ag, b, hb1, hyes, hno⟩ := xx
    have J : Inv X pins σ' H' sI := J'.ofTry ok
    have sky' : Sky B (X.env :: X.outer) a (Zc cls d) X.env.locals s'.heap := by rw [← hs]; exact sky
    show wpAny (model X.prog X.w) X.A (noteFrame (.ref a) X.env) _ _ _
    refine Sky.land Zc.steady hfr hf sky' fun h3 fl3 up3 => ?_
    have J3 : Inv X pins σ' H' { s' with heap := h3 } := J.landed nb fl3.1 (up.trans up3) os ag
    obtain ⟨oe3, vs3, he3, hz3, hd3⟩ := fl3.there
    have notFr : ∀ {h : Heap} {o : Obj} {vs : Array Value}, h.FunFrames B (X.env :: X.outer) → h.get? a = some o → o.data = .fields vs → a ∉ frs (X.env :: X.outer) := fun {h o vs} ff e dd hm => by
      obtain ⟨_, o', e', hnf⟩ := ff.mem hm
      rw [e] at e'; cases e'
      exact hnf _ dd
    have nfr := notFr fl3.2.2.1 he3 hd3
    have nfr' : a ∉ frs X.stack := by rw [hs]; exact nfr
    have nL : a ≠ X.env.locals := fun z => nfr (List.mem_filterMap.mpr ⟨X.env, List.mem_cons_self, by rw [hf, z]⟩)
    have nF : a ∉ X.fs := fun hm => by
      obtain ⟨e, he, q⟩ := List.mem_filterMap.mp hm
      exact nfr (List.mem_filterMap.mpr ⟨e, List.mem_cons_of_mem _ he, q⟩)
    have S3 := J3.suite he3 hd3 na nL nF
    refine wpAny_handleBy_cons (codeAny_handlers_test ?_) (by intro q; cases q)
    have LT : PySem.W.Looks (model X.prog X.w) h3 (typeOf (.ref a)) cls := fun A Q E s k q => wpAny_typeOf_ref (k _ _ he3) (by rw [hz3.1]; exact q)
    have LM := PySem.W.exm_one (M := model X.prog X.w) (J3.kIn) LT hb1
    have test : ∀ {Q : Value → Shared → Prop} {E : Value → Shared → Prop}, Q c { s' with heap := h3 } → wpAny (model X.prog X.w) (X.A.mark (some (.ref a))) (eval (.Name x np) X.env) Q E { s' with heap := h3 } := fun {Q E} q => by
      obtain ⟨hg, hdbg, hm | ⟨hm, hv, hnn⟩⟩ := hc
      · exact ld_glob (X := X.suite a ((a, oe3) :: (X.pn ++ pins))) S3 hg hm q hdbg
      · exact ld_blt (X := X.suite a ((a, oe3) :: (X.pn ++ pins))) S3 hg hm hv q hnn hdbg
    refine test (LM.here ?_)
    cases b with
    | true =>
      refine codeAny_handlers_suite_as ?_
      refine HandSPX.lands_againZ fl3 fun h4 fl4 up4 => ?_
      obtain ⟨oe4, vs4, he4, hz4, hd4⟩ := fl4.there
      have J4 : Inv X pins σ' (upd H' a (exq a cls d)) { s' with heap := h4 } := Inv.landedX J nb fl4.1 ((up.trans up3).trans up4) os ag fl4.2.1 nfr' he4 hz4 hd4 na
      have S4 := Inv.suiteX J4 a
      refine store_ok (X := X.suite a (X.pn ++ pins)) (v := .ref a) S4 hN hi hloc rfl (fun s5 S5 => ?_) (.inr hln)
      refine wpAny_mono ((hsu a cls d (X.pn ++ pins)).run [] s5 _ _ _ S5 (hyes rfl a na)) (fun f s6 hsp => ?_) (fun _ _ z => False.elim z)
      have end_ : ∀ {σ6 : St} {H6 : Hp} {Q : Shared → Prop}, Inv (X.suite a (X.pn ++ pins)) [] σ6 H6 s6 → (∀ s7, Inv X pins (σ6.set i none) H6 s7 → Q s7) →
          wpAny (model X.prog X.w) X.A (do bindName X.env n .none; unbindBehindTheSuite X.env n pos') (fun _ s7 => Q s7) X.xe s6 := fun {σ6 H6 Q} S6 hq => gone_ok (Inv.unsuiteX S6 ok) hN hi hln hq
      cases f with
      | next =>
        obtain ⟨σ6, H6, S6, q6⟩ := hsp
        exact end_ S6 fun s7 J7 => ⟨_, _, J7, q6⟩
      | brk =>
        obtain ⟨σ6, H6, S6, q6⟩ := hsp
        exact end_ S6 fun s7 J7 => ⟨_, _, J7, q6⟩
      | cont =>
        obtain ⟨σ6, H6, S6, q6⟩ := hsp
        exact end_ S6 fun s7 J7 => ⟨_, _, J7, q6⟩
      | ret u =>
        obtain ⟨v6, σ6, H6, S6, r6, q6⟩ := hsp
        exact end_ S6 fun s7 J7 => ⟨_, _, _, J7, r6, q6⟩
    | false =>
      show wpAny _ X.A (handleBy (.ref a) X.env []) _ _ _
      refine wpAny_handleBy_nil ?_
      obtain ⟨k1, k2, k3, oe, vs, T, oT, ts', he, hz, hd, h1, hr⟩ := id fl3
      unfold PySem.passOn
      refine wpAny_bind (wpAny_field he hd h1 ?_)
      rw [if_neg (show ¬ ((Value.ref T == Value.none) = true) from by simp)]
      have fin : wpAny (model X.prog X.w) X.A (setFlight (.ref a) X.env.frame) (fun _ s4 => wpAny (model X.prog X.w) X.A (throw (.ref a) : Sem Flow) (SP X pins D) X.xe s4) X.xe { s' with heap := h3 } := by
        rw [hf]
        refine HandSPX.setFlight_upZ fl3 fun h4 hh4 up4 => wpAny_throw (tk _ _ ?_)
        exact ⟨a, B, sI, pins, σ', H', cls, d, rfl, J, nb, (up.trans up3).trans up4, .inr (.inr (by rw [hs]; exact hh4)), na, os, ag, hno rfl⟩
      first
        | exact wpAny_bind (wpAny_pure (wpAny_bind fin))
        | exact wpAny_bind fin
  · cases f with
    | next =>
      obtain ⟨σ', H', J', q⟩ := hsp
      exact wpAny_execs_nil ⟨σ', H', J'.ofTry ok, q⟩
    | brk =>
      obtain ⟨σ', H', J', q⟩ := hsp
      exact ⟨σ', H', J'.ofTry ok, q⟩
    | cont =>
      obtain ⟨σ', H', J', q⟩ := hsp
      exact ⟨σ', H', J'.ofTry ok, q⟩
    | ret u =>
      obtain ⟨v, σ', H', J', r, q⟩ := hsp
      exact ⟨v, σ', H', J'.ofTry ok, r, q⟩
end
/-! ### isinstance of such, its fields -/
def rIsQ (K : PySem.W.Frag) : List V → Hp → VK → Prop := fun xs H Q => ∃ (a D dd : Addr) (fs : List (Str × V)), H a = some (exq a (.ref D) (some dd)) ∧ ExcD K D ∧ H dd = some (.xd fs) ∧
  ((∃ (c : V) (u : Value) (b : Bool), xs = [.ref a, c] ∧ ClsV c u ∧ PySem.W.kitOne K (.ref D) u = some b ∧ Q (.bl b) H) ∨
    ∃ (tp : Addr) (cs : List V) (us : List Value) (b : Bool), xs = [.ref a, .ref tp] ∧ H tp = some (.tup cs) ∧ Paired ClsV cs us ∧ PySem.W.kitAny K (.ref D) us = some b ∧ Q (.bl b) H)
theorem call_isQ {X : Cx} : CallR X (.builtin "isinstance") (rIsQ X.K) := by
  intro pins s σ H xs us Q I r h
  obtain ⟨a, D, dd, fs, ea, C, ed, h⟩ := h
  obtain ⟨oe, vs, hget, hz, hv⟩ := exq_at I.hok ea
  have hx : ObjOk X.prog X.w H s.heap dd (.xd fs) := I.hok dd _ ed
  obtain ⟨mA, hns, hr⟩ := hx
  obtain ⟨od, ho, hl⟩ := lookIn_ns hns
  have J : PySem.W.InstAt s.heap a oe D (some od) := ⟨hget, hz.1, by unfold PySem.W.notCls; rw [hv] <;> rfl, by rw [hz.2]; exact ho⟩
  have Z := PySem.W.kitx_exc (K := X.K) (x := a) (C := D) (ox := oe) (od := some od) C.cl C.hg C.hk C.hs C.ha C.hn C.ht C.hm
  rcases h with ⟨c, u, b, rfl, k, e, q⟩ | ⟨tp, cs, ws, b, rfl, hT, k, e, q⟩
  · obtain ⟨u1, u2, rfl, r1, r2⟩ := vals2 r
    cases (show u1 = Value.ref a from r1)
    have e2 := k.eq r2
    subst e2
    exact PySem.W.kia_one Z I.kIn J e (fun z => nomatch z) fun tk => ⟨.bl b, H, I.tok tk, rfl, q⟩
  · obtain ⟨u1, u2, rfl, r1, r2⟩ := vals2 r
    cases (show u1 = Value.ref a from r1)
    cases (show u2 = Value.ref tp from r2)
    obtain ⟨_, its, rv, o, h1, h2, n, h3⟩ := (show ObjOk X.prog X.w H s.heap tp (.tup cs) from I.hok tp _ hT)
    have e3 := ClsV.all k rv
    subst e3
    obtain ⟨oc, od2, dt, sl⟩ := o
    simp only at h2 h3
    subst h2 h3
    exact PySem.W.kia_tup Z I.kIn J h1 e (fun z => nomatch z) fun tk => ⟨.bl b, H, I.tok tk, rfl, q⟩
def rIsiY (K : PySem.W.Frag) : List V → Hp → VK → Prop := fun xs H Q => rIsiX K xs H Q ∨ rIsQ K xs H Q
theorem call_isiY {X : Cx} : CallR X (.builtin "isinstance") (rIsiY X.K) := call_isiX.or call_isQ
theorem call_isiYK {X : Cx} {K : PySem.W.Frag} (hK : X.K = K) : CallR X (.builtin "isinstance") (rIsiY K) := hK ▸ call_isiY
section
variable {K : PySem.W.Frag} {a D dd tp : Addr} {fs : List (Str × V)} {H : Hp} {Q : VK} {c x : V} {cs : List V} {u : Value} {us : List Value} {b : Bool}
theorem go_isY {xs : List V} (h : rIsiX K xs H Q) : rIsiY K xs H Q := .inl h
theorem go_isQ (ea : H a = some (exq a (.ref D) (some dd))) (C : ExcD K D) (ed : H dd = some (.xd fs)) (k : ClsV c u) (e : PySem.W.kitOne K (.ref D) u = some b) (h : Q (.bl b) H) : rIsiY K [.ref a, c] H Q := .inr ⟨a, D, dd, fs, ea, C, ed, .inl ⟨c, u, b, rfl, k, e, h⟩⟩
theorem go_isQT (ea : H a = some (exq a (.ref D) (some dd))) (C : ExcD K D) (ed : H dd = some (.xd fs)) (hT : H tp = some (.tup cs)) (k : Paired ClsV cs us) (e : PySem.W.kitAny K (.ref D) us = some b) (h : Q (.bl b) H) : rIsiY K [.ref a, .ref tp] H Q := .inr ⟨a, D, dd, fs, ea, C, ed, .inr ⟨tp, cs, us, b, rfl, hT, k, e, h⟩⟩
def tXq (K : PySem.W.Frag) (f : Str) (te : TE) : TE := fun σ H Q => te σ H fun x H1 => ∃ (a C dd : Addr) (fs : List (Str × V)) (v : V), x = .ref a ∧ H1 a = some (exq a (.ref C) (some dd)) ∧ XfC K C ∧ PySem.W.findIn K (.ref C) f = some none ∧ H1 dd = some (.xd fs) ∧ fs.lookup f = some v ∧ Q v H1
theorem pe_xq {X : Cx} {e : Expr} {te : TE} {pos : Pos} {n : Str} (hK : X.K = K) (he : PE X e te) (hb : attributeBase e n X.env (eval e X.env) = eval e X.env := by rfl) : PE X (.Attribute e n pos) (tXq K n te) := by
  subst hK
  refine ⟨fun pins s σ H Q I h => ?_⟩
  refine attr_of hb (thn (he.run pins s σ H _ I h) fun u s1 hh => ?_)
  obtain ⟨x, H1, I1, rx, a, C, dd, fs, v, ex, ea, T, hno, ed, l, q⟩ := hh
  subst ex
  obtain rfl : u = Value.ref a := rx
  obtain ⟨oe, vs, ha, hz, hd⟩ := exq_at I1.hok ea
  have hx : ObjOk X.prog X.w H1 s1.heap dd (.xd fs) := I1.hok dd _ ed
  obtain ⟨mA, hns, hr⟩ := hx
  obtain ⟨od, ho, hl⟩ := lookIn_ns hns
  obtain ⟨u, hu, ru⟩ := RelO.some_of (v := v) (o := mA n) (by rw [← l]; exact hr n)
  have J : PySem.W.InstAt s1.heap a oe C (some od) := ⟨ha, hz.1, by unfold PySem.W.notCls; rw [hd] <;> rfl, by rw [hz.2]; exact ho⟩
  exact HandSPX.exc_get I1.kIn J T.ga T.gg T.exC (PySem.W.findObj_own T.hdC hno rfl (by rw [hl, hu])) (handed_of ru) ⟨v, H1, I1.tok _, ru, q⟩
def XqW (K : PySem.W.Frag) (f : Str) (x : V) (H1 : Hp) (Q : VK) : Prop := ∃ (a C dd : Addr) (fs : List (Str × V)) (v : V), x = .ref a ∧ H1 a = some (exq a (.ref C) (some dd)) ∧ XfC K C ∧ PySem.W.findIn K (.ref C) f = some none ∧ H1 dd = some (.xd fs) ∧ fs.lookup f = some v ∧ Q v H1
theorem go_xq {f : Str} {te : TE} {σ : St} (h : te σ H fun x H1 => XqW K f x H1 Q) : tXq K f te σ H Q := h
theorem go_xqW {f : Str} {v : V} (ea : H a = some (exq a (.ref D) (some dd))) (T : XfC K D) (n : PySem.W.findIn K (.ref D) f = some none) (ed : H dd = some (.xd fs)) (l : fs.lookup f = some v) (h : Q v H) : XqW K f (.ref a) H Q := ⟨a, D, dd, fs, v, rfl, ea, T, n, ed, l, h⟩
theorem go_caughtX {cls c : Value} {d : Option Addr} {i : Nat} {ts : Addr → Value → Option Addr → TS} {Wout : WX} {Dd : Ends} {σ : St} (e : PySem.W.exmOne K cls c = some true)
    (h : ∀ a, H a = none → ts a cls d { nx := fun σ' H' => Dd.nx (σ'.set i none) H', rt := Dd.rt, bk := fun σ' H' => Dd.bk (σ'.set i none) H', ct := fun σ' H' => Dd.ct (σ'.set i none) H' } (σ.set i (some (.ref a))) (upd H a (exq a cls d))) : WE (wAsX K c i ts Wout Dd) σ cls d H :=
  ⟨true, e, fun _ => h, fun z => by cases z⟩
end
/-- an exception made as a value -/
def tExV (t : St → Hp → XK → Prop) : TE := fun σ H Q => t σ H fun cls d H' => ∀ a, H' a = none → Q (.ref a) (upd H' a (exq a cls d))
theorem pe_exv {X : Cx} {e : Expr} {t : St → Hp → XK → Prop} (he : PMk X e t) : PE X e (tExV t) := by
  refine ⟨fun pins s σ H Q I h => ?_⟩
  refine thn (he pins s σ H _ I h) fun u s1 hu => ?_
  obtain ⟨a, oe, vs, sI, H', cls, d, rfl, J, k, hne, ha, hz, hd, h1, na, os, ag, r, q⟩ := hu
  refine ⟨.ref a, _, Inv.landedX (B := sI.heap) J (fun b o e _ => e) k (Heap.UpToSlots.of_keeps k) os ag hne (fun hm => ?_) ha hz hd na, rfl, q a na⟩
  obtain ⟨_, o', e', _⟩ := J.stack.mem hm
  rw [hne] at e'; cases e'
def ExNew (cls : Value) (d : Option Addr) (H' : Hp) (Q : VK) : Prop := ∀ a, H' a = none → Q (.ref a) (upd H' a (exq a cls d))
theorem go_exv {t : St → Hp → XK → Prop} {σ : St} {H : Hp} {Q : VK} (h : t σ H fun cls d H' => ExNew cls d H' Q) : tExV t σ H Q := h
/-- the new exception and its dict, the heap abstract -/
theorem go_exNew {cls : Value} {d : Option Addr} {H : Hp} {Q : VK} (h : ∀ a H', H a = none → Same H H' → H' a = some (exq a cls d) → Q (.ref a) H') : ExNew cls d H Q := fun a na => h a _ na (same_new na) upd_same
end L2.A


namespace L2.A
open PySem PySem.Spec PyProof.Rows
/-! ### objects that may change, told by their cells -/
abbrev Cells := List (Addr × HO)
/-- kinds of objects that may change -/
def isMutB : HO → Bool
  | .ins _ _ _ | .dK _ | .dT _ | .lst _ => true
  | _ => false
structure Lay (L : Cells) (H : Hp) : Prop where
  nd : (L.map Prod.fst).Nodup
  has : ∀ c ∈ L, H c.1 = some c.2
  mt : ∀ c ∈ L, isMutB c.2 = true
/-- from H on: what stood in L stands as L' now, all else as it was, what is more in L' is new -/
structure Ext (L L' : Cells) (H H' : Hp) : Prop where
  kp : ∀ a o, H a = some o → a ∉ L.map Prod.fst → H' a = some o
  lay0 : Lay L H
  lay : Lay L' H'
  new : ∀ a ∈ L'.map Prod.fst, a ∈ L.map Prod.fst ∨ H a = none
  free : ∀ a, H' a = none → H a = none
theorem Lay.nil {H : Hp} : Lay [] H := ⟨List.nodup_nil, fun _ h => (by cases h), fun _ h => (by cases h)⟩
theorem Lay.get {L : Cells} {H : Hp} {p : Addr} {o : HO} (h : Lay L H) (m : (p, o) ∈ L) : H p = some o := h.has _ m
theorem Lay.same {L : Cells} {H H' : Hp} (h : Lay L H) (s : Same H H') : Lay L H' := ⟨h.nd, fun c m => s _ _ (h.has c m), h.mt⟩
theorem Lay.perm {L L' : Cells} {H : Hp} (h : Lay L H) (p : L.Perm L') : Lay L' H := ⟨(p.map Prod.fst).nodup_iff.mp h.nd, fun c m => h.has c (p.mem_iff.mpr m), fun c m => h.mt c (p.mem_iff.mpr m)⟩
theorem Lay.left {L R : Cells} {H : Hp} (h : Lay (L ++ R) H) : Lay L H := ⟨by have := h.nd; rw [List.map_append] at this; exact (List.nodup_append.mp this).1, fun c m => h.has c (List.mem_append_left _ m), fun c m => h.mt c (List.mem_append_left _ m)⟩
theorem Lay.right {L R : Cells} {H : Hp} (h : Lay (L ++ R) H) : Lay R H := ⟨by have := h.nd; rw [List.map_append] at this; exact (List.nodup_append.mp this).2.1, fun c m => h.has c (List.mem_append_right _ m), fun c m => h.mt c (List.mem_append_right _ m)⟩
theorem Lay.pull {L B R : Cells} {H : Hp} (h : Lay L H) (p : L.Perm (B ++ R)) : Lay B H := (h.perm p).left
theorem Lay.tup {L : Cells} {H : Hp} (h : Lay L H) {a : Addr} {xs : List V} (e : H a = some (.tup xs)) : a ∉ L.map Prod.fst := fun m => by
  obtain ⟨c, mc, rfl⟩ := List.mem_map.mp m
  have h1 := h.has c mc
  have h2 := h.mt c mc
  rw [h1] at e
  rw [Option.some.inj e] at h2
  cases h2
theorem Lay.free {L : Cells} {H : Hp} (h : Lay L H) {a : Addr} (e : H a = none) : a ∉ L.map Prod.fst := fun m => by
  obtain ⟨c, mc, rfl⟩ := List.mem_map.mp m
  rw [h.has c mc] at e
  cases e
theorem Lay.cons {L : Cells} {H : Hp} (h : Lay L H) {a : Addr} {o : HO} (n : a ∉ L.map Prod.fst) (e : H a = some o) (m : isMutB o = true) : Lay ((a, o) :: L) H :=
  ⟨List.nodup_cons.mpr ⟨n, h.nd⟩, fun c mc => by
    rcases List.mem_cons.mp mc with rfl | mc
    · exact e
    · exact h.has c mc, fun c mc => by
    rcases List.mem_cons.mp mc with rfl | mc
    · exact m
    · exact h.mt c mc⟩
theorem Ext.refl {L : Cells} {H : Hp} (h : Lay L H) : Ext L L H H := ⟨fun _ _ e _ => e, h, h, fun a m => .inl m, fun _ e => e⟩
theorem Ext.tup {L L' : Cells} {H H' : Hp} (x : Ext L L' H H') {a : Addr} {xs : List V} (e : H a = some (.tup xs)) : H' a = some (.tup xs) := x.kp a _ e (x.lay0.tup e)
theorem Ext.trans {L L' L'' : Cells} {H H' H'' : Hp} (x : Ext L L' H H') (y : Ext L' L'' H' H'') : Ext L L'' H H'' := by
  have back : ∀ a, a ∈ L'.map Prod.fst → ∀ o, H a = some o → a ∈ L.map Prod.fst := fun a m o e => by
    rcases x.new a m with h | h
    · exact h
    · rw [h] at e; cases e
  refine ⟨fun a o e n => y.kp a o (x.kp a o e n) fun m => n (back a m o e), x.lay0, y.lay, fun a m => ?_, fun a e => x.free a (y.free a e)⟩
  rcases y.new a m with h | h
  · exact x.new a h
  · exact .inr (x.free a h)
theorem Ext.same {L L' : Cells} {H H' H'' : Hp} (x : Ext L L' H H') (s : Same H' H'') : Ext L L' H H'' := ⟨fun a o e n => s _ _ (x.kp a o e n), x.lay0, x.lay.same s, x.new, fun a e => x.free a (s.free e)⟩
theorem Ext.of_same {L : Cells} {H H' : Hp} (h : Lay L H) (s : Same H H') : Ext L L H H' := (Ext.refl h).same s
/-- nothing changed but what is new -/
theorem Ext.toSame {L : Cells} {H H' : Hp} (x : Ext [] L H H') : Same H H' := fun a o e => x.kp a o e (fun m => nomatch m)
theorem Ext.toSame' {L L' R : Cells} {H H' : Hp} (x : Ext L L' H H') (p : L'.Perm (L ++ R)) : Same H H' := fun a o e => by
  by_cases m : a ∈ L.map Prod.fst
  · obtain ⟨c, mc, rfl⟩ := List.mem_map.mp m
    have h1 := x.lay0.has c mc
    rw [e] at h1
    rw [Option.some.inj h1]
    exact x.lay.has c (p.mem_iff.mpr (List.mem_append_left _ mc))
  · exact x.kp a o e m
theorem Ext.perm {L L' B : Cells} {H H' : Hp} (x : Ext L L' H H') (p : L'.Perm B) : Ext L B H H' := ⟨x.kp, x.lay0, x.lay.perm p, fun a m => x.new a ((p.map Prod.fst).mem_iff.mpr m), x.free⟩
theorem Ext.drop {L L' B R : Cells} {H H' : Hp} (x : Ext L L' H H') (p : L'.Perm (B ++ R)) : Ext L B H H' := ⟨x.kp, x.lay0, x.lay.pull p, fun a m => x.new a ((p.map Prod.fst).mem_iff.mpr (by rw [List.map_append]; exact List.mem_append_left _ m)), x.free⟩
theorem Ext.perm0 {L L' B : Cells} {H H' : Hp} (x : Ext L L' H H') (p : L.Perm B) : Ext B L' H H' := ⟨fun a o e n => x.kp a o e fun m => n ((p.map Prod.fst).mem_iff.mp m), x.lay0.perm p, x.lay, fun a m => (x.new a m).imp (fun z => (p.map Prod.fst).mem_iff.mp z) id, x.free⟩
/-- what is around stays -/
theorem Ext.frame {B B' R : Cells} {H H' : Hp} (h : Lay (B ++ R) H) (x : Ext B B' H H') : Ext (B ++ R) (B' ++ R) H H' := by
  have nd := h.nd
  rw [List.map_append] at nd
  obtain ⟨n1, n2, n3⟩ := List.nodup_append.mp nd
  have rB : ∀ c ∈ R, c.1 ∉ B.map Prod.fst := fun c mc mb => n3 _ mb _ (List.mem_map_of_mem mc) rfl
  refine ⟨fun a o e n => x.kp a o e fun m => n (by rw [List.map_append]; exact List.mem_append_left _ m), h, ⟨?_, fun c mc => ?_, fun c mc => ?_⟩, fun a m => ?_, x.free⟩
  · rw [List.map_append]
    refine List.nodup_append.mpr ⟨x.lay.nd, n2, fun a ma b mb e => ?_⟩
    subst e
    rcases x.new a ma with z | z
    · exact n3 _ z _ mb rfl
    · obtain ⟨c, mc, rfl⟩ := List.mem_map.mp mb
      rw [h.has c (List.mem_append_right _ mc)] at z; cases z
  · rcases List.mem_append.mp mc with m | m
    · exact x.lay.has c m
    · exact x.kp _ _ (h.has c (List.mem_append_right _ m)) (rB c m)
  · rcases List.mem_append.mp mc with m | m
    · exact x.lay.mt c m
    · exact h.mt c (List.mem_append_right _ m)
  · rw [List.map_append] at m ⊢
    rcases List.mem_append.mp m with m | m
    · exact (x.new a m).imp (fun z => List.mem_append_left _ z) id
    · exact .inl (List.mem_append_right _ m)
/-- a call that changes the block B -/
theorem Ext.call {L0 L B B' R : Cells} {H0 H H' : Hp} (x : Ext L0 L H0 H) (p : L.Perm (B ++ R)) (y : Ext B B' H H') : Ext L0 (B' ++ R) H0 H' := (x.perm p).trans (Ext.frame (x.lay.perm p) y)
/-- one cell anew -/
theorem Ext.put {L0 L R : Cells} {H0 H : Hp} {a : Addr} {o o' : HO} (x : Ext L0 L H0 H) (p : L.Perm ((a, o) :: R)) (m : isMutB o' = true) : Ext L0 ((a, o') :: R) H0 (upd H a o') := by
  have h := x.lay.perm p
  have nd := h.nd
  rw [List.map_cons, List.nodup_cons] at nd
  refine (x.perm p).trans ⟨fun b u e n => by rw [upd_ne (fun z => n (by rw [z]; exact List.mem_cons_self ..))]; exact e, h, ⟨?_, fun c mc => ?_, fun c mc => ?_⟩, fun b mb => .inl mb, fun b e => upd_free e⟩
  · exact List.nodup_cons.mpr nd
  · rcases List.mem_cons.mp mc with rfl | mc
    · exact upd_same
    · rw [upd_ne (fun z => nd.1 (by rw [← z]; exact List.mem_map.mpr ⟨c, mc, rfl⟩))]
      exact h.has c (List.mem_cons_of_mem _ mc)
  · rcases List.mem_cons.mp mc with rfl | mc
    · exact m
    · exact h.mt c (List.mem_cons_of_mem _ mc)
/-- a new cell -/
theorem Ext.add {L0 L : Cells} {H0 H H' : Hp} {a : Addr} {o : HO} (x : Ext L0 L H0 H) (n : H a = none) (s : Same H H') (e : H' a = some o) (m : isMutB o = true) : Ext L0 ((a, o) :: L) H0 H' :=
  ⟨fun b u e n => s _ _ (x.kp b u e n), x.lay0, (x.lay.same s).cons (x.lay.free n) e m, fun b mb => by
    rcases List.mem_cons.mp mb with rfl | mb
    · exact .inr (x.free _ n)
    · exact x.new b mb, fun b e => x.free b (s.free e)⟩
theorem Ext.addU {L0 L : Cells} {H0 H : Hp} {a : Addr} {o : HO} (x : Ext L0 L H0 H) (n : H a = none) (m : isMutB o = true) : Ext L0 ((a, o) :: L) H0 (upd H a o) := x.add n (same_new n) upd_same m
theorem Ext.newU {L0 L : Cells} {H0 H : Hp} {a : Addr} {o : HO} (x : Ext L0 L H0 H) (n : H a = none) : Ext L0 L H0 (upd H a o) := x.same (same_new n)
/-! ### finding a block -/
theorem pm_here {B R : Cells} : (B ++ R).Perm (B ++ R) := .refl _
theorem pm_all {B : Cells} : B.Perm (B ++ []) := by rw [List.append_nil]
theorem pm_app {A B L R : Cells} (h : L.Perm (B ++ R)) : (A ++ L).Perm (B ++ (A ++ R)) := (h.append_left A).trans (by rw [← List.append_assoc, ← List.append_assoc]; exact List.perm_append_comm.append_right R)
theorem pm_cons {c : Addr × HO} {B L R : Cells} (h : L.Perm (B ++ R)) : (c :: L).Perm (B ++ (c :: R)) := (h.cons c).trans List.perm_middle.symm
theorem pm_nil {L : Cells} : L.Perm ([] ++ L) := .refl _
theorem pm_two {B C L R R' : Cells} (h : L.Perm (B ++ R)) (h' : R.Perm (C ++ R')) : L.Perm ((B ++ C) ++ R') := h.trans ((h'.append_left B).trans (by rw [List.append_assoc]))
theorem pc_here {c : Addr × HO} {R : Cells} : (c :: R).Perm (c :: R) := .refl _
theorem pc_cons {c d : Addr × HO} {L R : Cells} (h : L.Perm (d :: R)) : (c :: L).Perm (d :: c :: R) := (h.cons c).trans (.swap ..)
theorem pc_app {d : Addr × HO} {A L R : Cells} (h : L.Perm (d :: R)) : (A ++ L).Perm (d :: (A ++ R)) := (h.append_left A).trans List.perm_middle
end L2.A

namespace L2.A
open PySem PySem.Spec PyProof.Rows
/-! ### dicts of names: names alone, names with numbers -/
def setO (zs : List Str) : HO := .dK (zs.map fun z => (Sum.inr z, V.bl true))
def cntO (ks : List (Str × Int)) : HO := .dK (ks.map fun kv => (Sum.inr kv.1, V.int kv.2))
def addS (zs : List Str) (z : Str) : List Str := if z ∈ zs then zs else zs ++ [z]
def cntV (ks : List (Str × Int)) (z : Str) : Option Int := (ks.find? fun kv => decide (kv.1 = z)).map (·.2)
def cntP (ks : List (Str × Int)) (z : Str) (n : Int) : List (Str × Int) := if (cntV ks z).isSome = true then ks.map (fun kv => if kv.1 = z then (kv.1, n) else kv) else ks ++ [(z, n)]
theorem valV_set {zs : List Str} {z : Str} : valV (zs.map fun z => ((Sum.inr z : Key), V.bl true)) (Sum.inr z) = if z ∈ zs then some (.bl true) else none := by
  induction zs with
  | nil => rfl
  | cons y r ih =>
    rw [List.map_cons]
    by_cases e : y = z
    · subst e
      rw [valV_pos rfl]; simp
    · rw [valV_neg (by simpa using e), ih]
      have : ¬ z = y := fun h => e h.symm
      simp [this]
theorem putK_set {zs : List Str} {z : Str} : putK (zs.map fun z => ((Sum.inr z : Key), V.bl true)) (Sum.inr z) (.bl true) = (addS zs z).map fun z => ((Sum.inr z : Key), V.bl true) := by
  unfold putK addS
  rw [valV_any, valV_set]
  by_cases e : z ∈ zs
  · rw [if_pos e, if_pos (show (some (V.bl true)).isSome = true from rfl), if_pos e, List.map_map]
    refine List.map_congr_left fun y _ => ?_
    show (if (Sum.inr y : Key) = Sum.inr z then ((Sum.inr y : Key), V.bl true) else (Sum.inr y, V.bl true)) = _
    by_cases q : (Sum.inr y : Key) = Sum.inr z
    · rw [if_pos q]
    · rw [if_neg q]
  · rw [if_neg e, if_neg (by decide), if_neg e, List.map_append]; rfl
theorem valV_cnt {ks : List (Str × Int)} {z : Str} : valV (ks.map fun kv => ((Sum.inr kv.1 : Key), V.int kv.2)) (Sum.inr z) = (cntV ks z).map V.int := by
  unfold cntV
  induction ks with
  | nil => rfl
  | cons y r ih =>
    rw [List.map_cons]
    by_cases e : y.1 = z
    · rw [valV_pos (by simp [e]), List.find?_cons, decide_eq_true e]; rfl
    · rw [valV_neg (by simpa using e), ih, List.find?_cons, decide_eq_false e]
theorem putK_cnt {ks : List (Str × Int)} {z : Str} {n : Int} : putK (ks.map fun kv => ((Sum.inr kv.1 : Key), V.int kv.2)) (Sum.inr z) (.int n) = (cntP ks z n).map fun kv => ((Sum.inr kv.1 : Key), V.int kv.2) := by
  unfold putK cntP
  rw [valV_any, valV_cnt]
  by_cases e : (cntV ks z).isSome = true
  · rw [if_pos (by rw [Option.isSome_map]; exact e), if_pos e, List.map_map, List.map_map]
    refine List.map_congr_left fun y _ => ?_
    show (if (Sum.inr y.1 : Key) = Sum.inr z then ((Sum.inr y.1 : Key), V.int n) else (Sum.inr y.1, V.int y.2)) = _
    by_cases q : y.1 = z
    · rw [if_pos (by rw [q])]; simp [q]
    · rw [if_neg (by simpa using q)]; simp [q]
  · rw [if_neg (by rw [Option.isSome_map]; exact e), if_neg e, List.map_append]; rfl
section
variable {K : PySem.W.Frag} {H : Hp} {Q : VK} {p : Addr} {zs : List Str} {ks : List (Str × Int)} {z : Str} {QH : Hp → Prop}
theorem go_inS (hp : H p = some (setO zs)) (h : Q (.bl (decide (z ∈ zs))) H) : rInX K (.str z) (.ref p) H Q := by
  refine .inr (.inr ⟨p, _, rfl, DGet.k (k := Sum.inr z) hp, ?_⟩)
  rw [valV_set]
  by_cases e : z ∈ zs
  · rw [if_pos e]; rwa [decide_eq_true e] at h
  · rw [if_neg e]; rwa [decide_eq_false e] at h
theorem go_inC (hp : H p = some (cntO ks)) (h : Q (.bl (cntV ks z).isSome) H) : rInX K (.str z) (.ref p) H Q := by
  refine .inr (.inr ⟨p, _, rfl, DGet.k (k := Sum.inr z) hp, ?_⟩)
  rw [valV_cnt, Option.isSome_map]; exact h
theorem go_sS (hp : H p = some (setO zs)) (l : zs.length ≤ 10000) (h : QH (upd H p (setO (addS zs z)))) : rSetX (.ref p) (.str z) (.bl true) H QH := by
  refine go_sKs hp (by rw [List.length_map]; exact szl (by omega)) ?_
  rw [putK_set]; exact h
theorem go_sC {n : Int} (hp : H p = some (cntO ks)) (l : ks.length ≤ 10000) (h : QH (upd H p (cntO (cntP ks z n)))) : rSetX (.ref p) (.str z) (.int n) H QH := by
  refine go_sKs hp (by rw [List.length_map]; exact szl (by omega)) ?_
  rw [putK_cnt]; exact h
theorem go_xC {n : Int} (hp : H p = some (cntO ks)) (e : cntV ks z = some n) (h : Q (.int n) H) : rIxX K (.ref p) (.str z) H Q := go_xKs hp (by rw [valV_cnt, e]; rfl) h
theorem go_getC {n : Int} (hp : H p = some (cntO ks)) (h : Q (.int ((cntV ks z).getD n)) H) : Dg2K p (.str z) (.int n) H Q := by
  refine go_dg2S hp ?_
  rw [valV_cnt]
  cases e : cntV ks z with
  | none => rw [e] at h; exact h
  | some v => rw [e] at h; exact h
end
theorem addS_len {zs : List Str} {z : Str} : (addS zs z).length ≤ zs.length + 1 := by
  unfold addS
  split <;> simp
theorem cntP_len {ks : List (Str × Int)} {z : Str} {n : Int} : (cntP ks z n).length ≤ ks.length + 1 := by
  unfold cntP
  split <;> simp
end L2.A


namespace L2.A
open PySem PySem.Spec PyProof.Rows
/-! ### stores by cells -/
/-- tuples stay -/
def TupKeep (H H' : Hp) : Prop := ∀ a xs, H a = some (.tup xs) → H' a = some (.tup xs)
theorem TupKeep.at {H H' : Hp} {a : Addr} {xs : List V} (t : TupKeep H H') (h : H a = some (.tup xs)) : H' a = some (.tup xs) := t a xs h
theorem TupKeep.of_same {H H' : Hp} (s : Same H H') : TupKeep H H' := fun a xs h => s _ _ h
theorem Ext.tk {L L' : Cells} {H H' : Hp} (x : Ext L L' H H') : TupKeep H H' := fun a xs h => x.tup h
theorem pc_inl {d : Addr × HO} {A A' L : Cells} (h : A.Perm (d :: A')) : (A ++ L).Perm (d :: (A' ++ L)) := h.append_right L
theorem pl_nil {L : Cells} : L.Perm ([] ++ L) := .refl _
theorem pl_cons {c : Addr × HO} {B L L1 R : Cells} (h : L.Perm (c :: L1)) (h' : L1.Perm (B ++ R)) : L.Perm ((c :: B) ++ R) := h.trans (h'.cons c)
theorem pl_app {B C L L1 R : Cells} (h : L.Perm (B ++ L1)) (h' : L1.Perm (C ++ R)) : L.Perm ((B ++ C) ++ R) := pm_two h h'
theorem tk_put {L R : Cells} {H : Hp} {a : Addr} {o o' : HO} (h : Lay L H) (p : L.Perm ((a, o) :: R)) : TupKeep H (upd H a o') := fun b xs e => by
  have n := (h.perm p).tup e
  rw [upd_ne (fun z => n (by rw [z]; exact List.mem_cons_self ..))]
  exact e
section
variable {K : PySem.W.Frag} {f : Str} {y z v : V} {D : Ends} {σ : St} {Q : VK} {QS : St → Hp → Prop} {QH : Hp → Prop} {a C dx l : Addr} {fs fs' : List (Str × V)} {L0 L R : Cells} {H0 H : Hp} {xs : List V}
theorem go_sfldX (x : Ext L0 L H0 H) (p : L.Perm ((a, .ins C dx fs) :: R)) (c : Cls K C) (n : NoAttr K C f) (s : Nat.ble fs.length 900 = true) (e : putF f y fs = fs')
    (h : ∀ H', Ext L0 ((a, .ins C dx fs') :: R) H0 H' → TupKeep H H' → D.nx σ H') : SFldW K f y D σ (.ref a) H :=
  go_sfldW ((x.lay.perm p).get (.head _)) c n s e (h _ (x.put p rfl) (tk_put x.lay p))
theorem go_gfldX (x : Ext L0 L H0 H) (p : L.Perm ((a, .ins C dx fs) :: R)) (c : Cls K C) (n : NoAttr K C f) (s : Nat.ble fs.length 900 = true) (e : putF f v fs = fs')
    (h : ∀ H', Ext L0 ((a, .ins C dx fs') :: R) H0 H' → TupKeep H H' → QS σ H') : GFldW K f v σ (.ref a) H QS :=
  go_gfldW ((x.lay.perm p).get (.head _)) c n s e (h _ (x.put p rfl) (tk_put x.lay p))
theorem go_astX (x : Ext L0 L H0 H) (p : L.Perm ((a, .ins C dx fs) :: R)) (s : Nat.ble fs.length 900 = true) (e : putF f z fs = fs')
    (h : ∀ H', Ext L0 ((a, .ins C dx fs') :: R) H0 H' → TupKeep H H' → D.nx σ H') : AStW C f a D σ z H :=
  go_astW ((x.lay.perm p).get (.head _)) s e (h _ (x.put p rfl) (tk_put x.lay p))
theorem go_sLX {j : Int} {n : Nat} (x : Ext L0 L H0 H) (p : L.Perm ((l, .lst xs) :: R)) (hj : ixN xs.length j = some n) (h : ∀ H', Ext L0 ((l, .lst (xs.set n v)) :: R) H0 H' → TupKeep H H' → QH H') : rSetX (.ref l) (.int j) v H QH :=
  go_sL ((x.lay.perm p).get (.head _)) hj (h _ (x.put p rfl) (tk_put x.lay p))
theorem go_appendX (x : Ext L0 L H0 H) (p : L.Perm ((l, .lst xs) :: R)) (s : xs.length < 100000) (h : ∀ H', Ext L0 ((l, .lst (xs ++ [y])) :: R) H0 H' → TupKeep H H' → Q .non H') : rAppend (.ref l) [y] H Q :=
  go_append ((x.lay.perm p).get (.head _)) s (h _ (x.put p rfl) (tk_put x.lay p))
theorem go_sSX {zs : List Str} {k : Str} (x : Ext L0 L H0 H) (p : L.Perm ((l, setO zs) :: R)) (s : zs.length ≤ 10000) (h : ∀ H', Ext L0 ((l, setO (addS zs k)) :: R) H0 H' → TupKeep H H' → QH H') : rSetX (.ref l) (.str k) (.bl true) H QH :=
  go_sS ((x.lay.perm p).get (.head _)) s (h _ (x.put p rfl) (tk_put x.lay p))
theorem go_sCX {ks : List (Str × Int)} {k : Str} {n : Int} (x : Ext L0 L H0 H) (p : L.Perm ((l, cntO ks) :: R)) (s : ks.length ≤ 10000) (h : ∀ H', Ext L0 ((l, cntO (cntP ks k n)) :: R) H0 H' → TupKeep H H' → QH H') : rSetX (.ref l) (.str k) (.int n) H QH :=
  go_sC ((x.lay.perm p).get (.head _)) s (h _ (x.put p rfl) (tk_put x.lay p))
theorem go_sKX {kvs kvs' : List (Key × V)} {k : Str} (x : Ext L0 L H0 H) (p : L.Perm ((l, .dK kvs) :: R)) (s : Nat.ble kvs.length 1000 = true) (e : putK kvs (Sum.inr k) v = kvs') (h : ∀ H', Ext L0 ((l, .dK kvs') :: R) H0 H' → TupKeep H H' → QH H') : rSetX (.ref l) (.str k) v H QH :=
  go_sKs ((x.lay.perm p).get (.head _)) (Nat.lt_of_le_of_lt (Nat.le_of_ble_eq_true s) (by decide)) (by rw [e]; exact h _ (x.put p rfl) (tk_put x.lay p))
/-- new objects -/
theorem go_newM {o : HO} (x : Ext L0 L H0 H) (m : isMutB o = true) (h : ∀ p H', H p = none → Ext L0 ((p, o) :: L) H0 H' → TupKeep H H' → Q (.ref p) H') : NewO o H Q := fun p hp => h p _ hp (x.addU hp m) (.of_same (same_new hp))
theorem go_newTp (x : Ext L0 L H0 H) (h : ∀ p H', H p = none → Ext L0 L H0 H' → TupKeep H H' → H' p = some (.tup xs) → Q (.ref p) H') : NewO (.tup xs) H Q := fun p hp => h p _ hp (x.newU hp) (.of_same (same_new hp)) upd_same
theorem Ext.callS {L0 L : Cells} {H0 H H' : Hp} (x : Ext L0 L H0 H) (s : Same H H') : Ext L0 L H0 H' := x.same s
end
/-- parts of written tuples -/
inductive DropR : Nat → List V → List V → Prop
  | zero {xs : List V} : DropR 0 xs xs
  | succ {n : Nat} {x : V} {xs ys : List V} : DropR n xs ys → DropR (n + 1) (x :: xs) ys
inductive TakeR : Nat → List V → List V → Prop
  | zero {xs : List V} : TakeR 0 xs []
  | succ {n : Nat} {x : V} {xs ys : List V} : TakeR n xs ys → TakeR (n + 1) (x :: xs) (x :: ys)
theorem DropR.eq {n : Nat} {xs ys : List V} (h : DropR n xs ys) : xs.drop n = ys ∧ n ≤ xs.length := by
  induction h with
  | zero => exact ⟨rfl, Nat.zero_le _⟩
  | succ _ ih => exact ⟨ih.1, Nat.succ_le_succ ih.2⟩
theorem TakeR.eq {n : Nat} {xs ys : List V} (h : TakeR n xs ys) : xs.take n = ys ∧ n ≤ xs.length := by
  induction h with
  | zero => exact ⟨rfl, Nat.zero_le _⟩
  | succ _ ih => exact ⟨by rw [List.take_succ_cons, ih.1], Nat.succ_le_succ ih.2⟩
theorem cut_mid {xs : List V} {j k : Nat} (h : j ≤ k) (h2 : k ≤ xs.length) : cutV xs (some (j : Int)) (some (k : Int)) = (xs.drop j).take (k - j) := by
  unfold cutV
  rw [HT.sIx_nat, HT.sIx_nat, Nat.min_eq_left h2, Nat.min_eq_left (Nat.le_trans h h2)]
section
variable {K : PySem.W.Frag} {H : Hp} {Q : VK} {p : Addr} {xs ys zs : List V} {i j : Int}
theorem sIx_of {k n : Nat} : HT.sIx n 0 (some (k : Int)) = min k n := HT.sIx_nat ..
theorem go_slTD (k : Nat) (hp : SqT K H p xs) (hi : i = ((k + 1 : Nat) : Int)) (hk : DropR (k + 1) xs ys) (h : NewO (.tup ys) H Q) : rSlX K (.ref p) (some i) none H Q := by
  subst hi
  obtain ⟨e, l⟩ := hk.eq
  refine go_slT (lo := some ((k + 1 : Nat) : Int)) (hi := none) hp (by rw [cut_drop l]; exact e) ?_ h
  rw [HT.sIx_nat, Nat.min_eq_left l]
  rfl
theorem go_slTT (k : Nat) (hp : SqT K H p xs) (hi : i = (k : Int)) (hk : TakeR k xs ys) (hn : Nat.beq k xs.length = false) (h : NewO (.tup ys) H Q) : rSlX K (.ref p) none (some i) H Q := by
  subst hi
  obtain ⟨e, l⟩ := hk.eq
  refine go_slT (lo := none) (hi := some (k : Int)) hp (by rw [cut_take l]; exact e) ?_ h
  rw [HT.sIx_nat, Nat.min_eq_left l, hn, Bool.and_false]
theorem go_slTM (k m : Nat) (hp : SqT K H p xs) (hi : i = ((k + 1 : Nat) : Int)) (hj : j = ((k + 1 + m : Nat) : Int)) (hk : DropR (k + 1) xs ys) (hm : TakeR m ys zs) (h : NewO (.tup zs) H Q) : rSlX K (.ref p) (some i) (some j) H Q := by
  subst hi hj
  obtain ⟨e, l⟩ := hk.eq
  obtain ⟨e2, l2⟩ := hm.eq
  have l3 : ys.length = xs.length - (k + 1) := by rw [← e, List.length_drop]
  refine go_slT (lo := some ((k + 1 : Nat) : Int)) (hi := some ((k + 1 + m : Nat) : Int)) hp (by rw [cut_mid (by omega) (by omega), e, show k + 1 + m - (k + 1) = m by omega]; exact e2) ?_ h
  rw [HT.sIx_nat, Nat.min_eq_left l]
  rfl
theorem go_slLD (k : Nat) (hp : SqL K H p xs) (hi : i = (k : Int)) (hk : DropR k xs ys) (h : NewO (.lst ys) H Q) : rSlX K (.ref p) (some i) none H Q := by
  subst hi
  obtain ⟨e, l⟩ := hk.eq
  exact go_slL (lo := some (k : Int)) (hi := none) hp (by rw [cut_drop l]; exact e) h
end
end L2.A


namespace L2.A
open PySem PySem.Spec PyProof.Rows
/-! ### enumerate from any count, over lists and tuples -/
def Itk (Sq : Hp → Addr → List V → Prop) (k0 : Int) (a : Addr) : It :=
  ⟨fun i H => ∃ (xs : List V) (x : V), Sq H a xs ∧ xs[i]? = some x, fun i H v H' => ∃ T x, v = .ref T ∧ H T = none ∧ H' = upd H T (.tup [.int (k0 + (i : Nat)), x]) ∧ ∀ zs, Sq H a zs → zs[i]? = some x, fun i H => ∃ xs : List V, Sq H a xs ∧ xs.length = i⟩
abbrev EnTn (k0 : Int) (a e it : Addr) (Li : Heap → Addr → Addr → Nat → Prop) (i : Nat) (h : Heap) : Prop :=
  (∃ old, IsEnum h e it (k0 + ((i : Nat) : Int)) old) ∧ Li h it a i ∧ e ≠ it ∧ a ≠ it ∧ e ≠ a
theorem turn_enK {P : Program} {w : World} {K : PySem.W.Frag} {elts : List Expr} {kk : Nat} {tpos : Pos} (k0 : Int) (a e it : Addr) {Li : Heap → Addr → Addr → Nat → Prop} {Is : Heap → Addr → Array Value → Prop} {Sq : Hp → Addr → List V → Prop}
    (hob : ∀ h i, Li h it a i → ∃ o, h.get? it = some o ∧ ∀ v, o.data ≠ .cell v)
    (hkp : ∀ h h' i, Li h it a i → (∀ o, h.get? it = some o → h'.get? it = some o) → Li h' it a i)
    (hdr : ∀ (A : Around), A.handled = none → a ≠ it → ∀ its : Array Value, Draws P w A it [it, a] its.size (fun i v => its[i]? = some v) (fun i h => Li h it a i ∧ Is h a its))
    (hsq : ∀ (X : Cx) (pins : List (Addr × Obj)) (s : Shared) (σ : St) (H : Hp) (xs : List V), X.K = K → Inv X pins σ H s → Sq H a xs → ∃ its : List Value, Vals xs its ∧ Is s.heap a its.toArray)
    (hin : ∀ (X : Cx) (pins : List (Addr × Obj)) (s : Shared) (σ : St) (H : Hp) (xs ys : List V), X.K = K → Inv X pins σ H s → Sq H a xs → Sq H a ys → xs = ys) :
    Turn P w K (.Tuple elts kk tpos) (Itk Sq k0 a) [e, it] e (EnTn k0 a e it Li) where
  mem := List.mem_cons_self
  obj := fun i h ⟨⟨old, he⟩, hl, _⟩ b hb => by
    rcases List.mem_cons.mp hb with z | z
    · subst z; exact ⟨_, he, fun v q => nomatch q⟩
    · rw [List.mem_singleton.mp z]; exact hob h i hl
  keep := fun i h h' ⟨⟨old, he⟩, hl, r⟩ k => ⟨⟨old, k e List.mem_cons_self _ he⟩, hkp h h' i hl (k it (by simp)), r⟩
  item := by
    intro X hP hw hK hc i pins s σ H E I hf ⟨⟨old, he⟩, hl, h1, h2, h3⟩ ⟨xs, x, hq, hx⟩
    subst hP hw
    obtain ⟨its, rv, p⟩ := hsq X pins s σ H xs hK I hq
    obtain ⟨u, hu, ru⟩ := rv.get hx
    have hu' : its.toArray[i]? = some u := by simpa using hu
    have hlt : i < its.toArray.size := by
      rcases Nat.lt_or_ge i its.toArray.size with q | q
      · exact q
      · rw [Array.getElem?_eq_none q] at hu'; cases hu'
    have el : e < s.heap.objs.size := Heap.lt_size he
    have il : it < s.heap.objs.size := by obtain ⟨o, q, _⟩ := hob _ _ hl; exact Heap.lt_size q
    refine wpAny_pyNext_enum_itemC (hdr X.A.in1 (I.ok.hd hc) h2 its.toArray) he ⟨hl, p⟩ hlt h1 (by simp [h1, h3]) fun u2 h' tk eu ho hl2 hT hsz hk => ?_
    obtain rfl : u2 = u := Option.some.inj (eu.symm.trans hu')
    refine ⟨_, rfl, wpAny_letOwnedTupleGo_enum (s := { s with heap := h', toks := tk + 1 }) ho fun h2' he' sb => ?_⟩
    have hT2 : h2'.get? s.heap.objs.size = some { cls := .type "tuple", data := .seq #[.int (k0 + (i : Int)) tk, u2] } := (sb.2 _ (Nat.ne_of_gt el)).trans hT
    have nw : ObjOk X.prog X.w (upd H s.heap.objs.size (.tup [.int (k0 + (i : Nat)), x])) h2' s.heap.objs.size (.tup [.int (k0 + (i : Nat)), x]) :=
      ⟨show 2 ≤ sizeLine by decide, [.int (k0 + (i : Int)) tk, u2], .cons ⟨tk, rfl⟩ (.cons ru .nil), ⟨_, hT2, rfl, _, rfl⟩⟩
    have I1 : Inv X pins σ (upd H s.heap.objs.size (.tup [.int (k0 + (i : Nat)), x])) { s with heap := h2', toks := tk + 1 } :=
      I.turnedNew (ch := [e, it]) (fun b ob hb q => (sb.2 b fun z => hb (by simp [z])).trans (hk b ob (fun z => hb (by simp [z])) (fun z => hb (by simp [z])) q)) hf (Nat.le_refl _) nw
    refine ⟨.ref s.heap.objs.size, _, I1, rfl, ⟨_, x, rfl, I.hok.fresh (Nat.le_refl _), rfl, fun ys hy => by rw [hin X pins s σ H _ _ hK I hy hq]; exact hx⟩, ⟨⟨u2, ?_⟩, hkp h' h2' _ hl2.1 fun o q => (sb.2 it (Ne.symm h1)).trans q, h1, h2, h3⟩, fun b hb => ?_⟩
    · rw [show k0 + ((i + 1 : Nat) : Int) = k0 + (i : Int) + 1 by omega]; exact he'
    · have hb' : b < s.heap.objs.size := by
        rcases List.mem_cons.mp hb with z | z
        · rw [z]; exact el
        · rw [List.mem_singleton.mp z]; exact il
      rw [upd_ne (Nat.ne_of_lt hb')]
      exact (hf b hb).1
  done := by
    intro X hP hw hK hc i pins s σ H E I hf ⟨⟨old, he⟩, hl, h1, h2, h3⟩ ⟨xs, hq, hx⟩
    subst hP hw
    obtain ⟨its, rv, p⟩ := hsq X pins s σ H xs hK I hq
    obtain ⟨f0, f1, f2, f3, f4, f5⟩ := hf it (by simp)
    obtain rfl : its.toArray.size = i := by rw [← hx, List.size_toArray]; exact rv.length.symm
    exact wpAny_pyNext_enum_endD (hdr X.A.in1 (I.ok.hd hc) h2 its.toArray) he ⟨hl, p⟩ fun h' eb => ⟨rfl, I.turned (t' := s.toks) (fun b o hb q => eb b o hb q) f0 f1 f3 f4 f5⟩
  self := fun A i s Q E ⟨⟨_, he⟩, _⟩ h => wpAny_pyIter_enum he h
theorem turn_enL {P : Program} {w : World} {K : PySem.W.Frag} {elts : List Expr} {kk : Nat} {tpos : Pos} (k0 : Int) (a e it : Addr) :
    Turn P w K (.Tuple elts kk tpos) (Itk (SqL K) k0 a) [e, it] e (EnTn k0 a e it fun h it a i => h.IsListIter it a i) :=
  turn_enK k0 a e it (Is := fun h a its => h.IsList a its) (fun h i ⟨o, h1, _, h3⟩ => ⟨o, h1, fun v q => by rw [h3] at q; cases q⟩) (fun h h' i hl k => hl.at k)
    (fun A hh hne its => Draws.list hh it a hne its) (fun X pins s σ H xs hK I hq => by subst hK; obtain ⟨its, rv, p, _⟩ := I.list hq; exact ⟨its, rv, p.isList⟩)
    (fun X pins s σ H xs ys hK I h1 h2 => by subst hK; exact I.list_inj h1 h2)
theorem turn_enT {P : Program} {w : World} {K : PySem.W.Frag} {elts : List Expr} {kk : Nat} {tpos : Pos} (k0 : Int) (a e it : Addr) :
    Turn P w K (.Tuple elts kk tpos) (Itk (SqT K) k0 a) [e, it] e (EnTn k0 a e it fun h it a i => h.IsTupleIter it a i) :=
  turn_enK k0 a e it (Is := fun h a its => h.IsTuple a its) (fun h i ⟨o, h1, _, h3⟩ => ⟨o, h1, fun v q => by rw [h3] at q; cases q⟩) (fun h h' i hl k => hl.at k)
    (fun A hh hne its => Draws.tuple hh it a hne its) (fun X pins s σ H xs hK I hq => by subst hK; obtain ⟨its, rv, p, _⟩ := I.tuple hq; exact ⟨its, rv, p⟩)
    (fun X pins s σ H xs ys hK I h1 h2 => by subst hK; exact I.tuple_inj h1 h2)
section
variable {M : Model} {A : Around} {E : Value → Shared → Prop} {s : Shared} {env : Env}
theorem callWith_tyK {pos : Pos} {T : String} {e : Expr} {kws : List Keyword} {Q : Value → Shared → Prop}
    (h : wpAny M A (spliced (backTo pos (starEach [e] env))) (fun vs s1 => wpAny M A (evalAll ((backToKw pos (keywordEach kws env)).map (·.2)))
      (fun kvs s2 => wpAny M A (call (.type T) vs (((backToKw pos (keywordEach kws env)).filterMap (·.1)).zip kvs)) Q E s2) E s1) E s)
    (he : backTo pos (starEach [e] env) = [(false, eval e env)] := by rfl)
    (hall : (backToKw pos (keywordEach kws env)).all (·.1.isSome) = true := by rfl) (hkw : (backToKw pos (keywordEach kws env)).any (·.1.isNone) = false := by rfl) :
    wpAny M A (callWith pos (.type T) [] (backTo pos (starEach [e] env)) (backToKw pos (keywordEach kws env))) Q E s := by
  rw [he] at h ⊢
  have h2 := evalArgs_kwB (f := .type T) (Q := fun a s1 => wpAny M A (call (.type T) ([] ++ a.pos) a.kw) Q E s1) hall h
  unfold callWith
  refine wpAny_bind (wpAny_holding (wpAny_mono h2 (fun a s1 h3 => wpAny_bind (wpAny_standAt ?_)) fun _ _ x => x))
  have hz : ([(false, eval e env)] : List (Bool × Sem Value)).any (·.1) = false := rfl
  simp only [hz, hkw, Bool.or_false]
  refine wpAny_bind (wpAny_pure ?_)
  exact wpAny_bind (wpAny_mono h3 (fun r s3 hr => wpAny_bind (wpAny_holding (wpAny_point (wpAny_pure hr)))) fun _ _ x => x)
end
def EnO (K : PySem.W.Frag) (k0 : Int) (a : Addr) (R : It → Hp → Prop) (H1 : Hp) : Prop := ∃ xs, (SqL K H1 a xs ∧ R (Itk (SqL K) k0 a) H1) ∨ (SqT K H1 a xs ∧ R (Itk (SqT K) k0 a) H1)
def EnS (K : PySem.W.Frag) (vs : List V) (R : It → Hp → Prop) (zs : List V) (H2 : Hp) : Prop := ∃ a k0, vs = [.ref a] ∧ zs = [.int k0] ∧ (-(2 ^ 63) ≤ k0 ∧ k0 < 2 ^ 63) ∧ EnO K k0 a R H2
def iEnS (K : PySem.W.Frag) (ta tk : TA) : TI := fun σ H R => ta σ H fun vs H1 => tk σ H1 fun zs H2 => EnS K vs R zs H2
def EnX (K : PySem.W.Frag) (vs : List V) (R : It → Hp → Prop) (H2 : Hp) : Prop := ∃ a, vs = [.ref a] ∧ EnO K 0 a R H2
def iEnX (K : PySem.W.Frag) (ta : TA) : TI := fun σ H R => ta σ H fun vs H1 => EnX K vs R H1
section
variable {X : Cx} {e : Expr} {kws : List Keyword} {ta tk : TA} {p pos tpos : Pos} {elts : List Expr} {kk : Nat}
theorem en_go {tg : Expr} {pins : List (Addr × Obj)} {σ : St} {H1 : Hp} {R : It → Hp → Prop} {s1 : Shared} {k0 : Int} {a : Addr} {o : Obj} {Li : Heap → Addr → Addr → Nat → Prop} {Sq : Hp → Addr → List V → Prop} (I1 : Inv X pins σ H1 s1) (hq : R (Itk Sq k0 a) H1) (ha : a < s1.heap.objs.size)
    (ht : Turn X.prog X.w X.K tg (Itk Sq k0 a) [s1.heap.objs.size + 1, s1.heap.objs.size] (s1.heap.objs.size + 1) (EnTn k0 a (s1.heap.objs.size + 1) s1.heap.objs.size Li))
    (hl : ∀ h' : Heap, h'.get? s1.heap.objs.size = some o → Li h' s1.heap.objs.size a 0)
    (h' : Heap) (he : IsEnum h' (s1.heap.objs.size + 1) s1.heap.objs.size k0 .none) (hg : h'.get? s1.heap.objs.size = some o) (hk : ∀ b o, s1.heap.get? b = some o → h'.get? b = some o) :
    wpAny (model X.prog X.w) X.A (pyIter (.ref (s1.heap.objs.size + 1))) (PIE X pins σ tg R) X.xe { s1 with heap := h' } := by
  have I2 : Inv X pins σ H1 { s1 with heap := h' } := I1.kept (t' := s1.toks) hk
  refine wpAny_pyIter_enum he ⟨s1.heap.objs.size + 1, [s1.heap.objs.size + 1, s1.heap.objs.size], _, _, H1, rfl, I2, ht, ⟨⟨.none, ?_⟩, hl h' hg, Nat.succ_ne_self _, Nat.ne_of_lt ha, Nat.ne_of_gt (Nat.lt_succ_of_lt ha)⟩, fun b hb => ?_, hq⟩
  · rw [show k0 + ((0 : Nat) : Int) = k0 by omega]; exact he
  · have hle : s1.heap.objs.size ≤ b := by
      rcases List.mem_cons.mp hb with z | z
      · rw [z]; exact Nat.le_succ _
      · rw [List.mem_singleton.mp z]; exact Nat.le_refl _
    exact I1.fpOk hle (I1.hok.fresh hle)
/-- enumerate(xs, start=k) -/
theorem pi_enumS (hg : Gl X "enumerate") (hm : X.mg "enumerate" = none) (ha : PA X [e] ta) (hk : PK X kws tk) (hb : backTo pos (starEach [e] X.env) = [(false, eval e X.env)] := by rfl)
    (hall : (backToKw pos (keywordEach kws X.env)).all (·.1.isSome) = true := by rfl) (hno : (backToKw pos (keywordEach kws X.env)).any (·.1.isNone) = false := by rfl) (hks : (backToKw pos (keywordEach kws X.env)).filterMap (·.1) = [Str.ofString "start"] := by rfl) :
    PI X (.Tuple elts kk tpos) (.Call (.Name "enumerate" p) [e] kws pos) (iEnS X.K ta tk) := by
  refine ⟨fun pins s σ H R I h => ?_⟩
  refine wpAny_Call_Name_kw (ld_blt I hg hm boot_enumerate ?_)
  refine callWith_tyK (thn (ha.run pos pins s σ H _ I h) fun us s1 ⟨vs, H1, I1, r1, q1⟩ => thn (hk.run pos pins s1 σ H1 _ I1 q1) fun ws s2 ⟨zs, H2, I2, r2, a, k0, ea, ek, hk0, xs, q2⟩ => ?_) hb hall hno
  subst ea ek
  obtain rfl := Vals.ref1 r1
  obtain ⟨w1, rfl, t, rfl⟩ := vals1 r2
  rw [hks]
  rcases q2 with ⟨hq, q⟩ | ⟨hq, q⟩
  · obtain ⟨its, rv, p', _⟩ := I2.list hq
    exact enum_begins_start (begins_list a its.toArray) p'.isList hk0.1 hk0.2 fun h' he hg' _ hk' => en_go I2 q p'.lt (turn_enL k0 a _ _) (fun h' e' => ⟨_, e', rfl, rfl⟩) h' he hg' hk'
  · obtain ⟨its, rv, p', _⟩ := I2.tuple hq
    obtain ⟨o1, ho1, _⟩ := id p'
    exact enum_begins_start (begins_tuple a its.toArray) p' hk0.1 hk0.2 fun h' he hg' _ hk' => en_go I2 q (Heap.lt_size ho1) (turn_enT k0 a _ _) (fun h' e' => ⟨_, e', rfl, rfl⟩) h' he hg' hk'
set_option maxHeartbeats 1000000 in
theorem meets_en1 {v : Value} {o : Obj} {H : Heap → Prop} (B : Begins v o H) :
    Meets (Builtin.«enumerate.__new__» ⟨[.type "enumerate", v], []⟩) (fun _ R s => H s.heap ∧
      R (.ok (.ret (.ref (s.heap.push o).objs.size))) { s with heap := (s.heap.push o).push { cls := .type "enumerate", data := .fields #[.none, .bool false, .ref s.heap.objs.size, rawInt 0, .none, .none] } }) :=
  .of_wp fun prog w A R s ⟨h1, h⟩ => by
    obtain ⟨hp, g, d, tk, os⟩ := s
    have su := sub_enumerate
    have q1 : ∀ {A' : Around} {E' : Value → Shared → Prop} {Q' : Value → Shared → Prop}, Q' (.ref hp.objs.size) ⟨hp.push o, g, d, tk, os⟩ → wpAny (model prog w) A' (pyIter v) Q' E' ⟨hp, g, d, tk, os⟩ :=
      fun q => B.iter prog w _ _ ⟨hp, g, d, tk, os⟩ _ h1 q
    wp_walk using q1
    refine wpAny_stack_any fun st => wpAny_pure ?_
    split
    · rename_i c _ _ _ _ _
      cases (c == Value.type "enumerate") <;> (wp_walk using q1; exact ⟨_, rfl, h⟩)
    · wp_walk using q1
      exact ⟨_, rfl, h⟩
theorem enum_begins1 {prog : Program} {w : World} {A : Around} {E : Value → Shared → Prop} {s : Shared} {v : Value} {o : Obj} {H : Heap → Prop} {Q : Value → Shared → Prop} (B : Begins v o H) (h1 : H s.heap)
    (h : ∀ h', IsEnum h' (s.heap.objs.size + 1) s.heap.objs.size 0 .none → h'.get? s.heap.objs.size = some o → (∀ b o, s.heap.get? b = some o → h'.get? b = some o) → Q (.ref (s.heap.objs.size + 1)) { s with heap := h' }) :
    wpAny (model prog w) A (call (.type "enumerate") [v]) Q E s := by
  refine callType_new F.called_enumerate (by decide) (F.typeCall_enumerate_1 _) (F.newCall_enumerate_1 _) (fun obj => F.args_object_init_2 obj _) F.entry_enumerate_new (meets_en1 B) ⟨h1, ?_⟩
  have hz : (s.heap.push o).objs.size = s.heap.objs.size + 1 := Heap.size_push ..
  have he := Heap.get?_push_size (s.heap.push o) (o := { cls := .type "enumerate", data := .fields #[.none, .bool false, .ref s.heap.objs.size, rawInt 0, .none, .none] }) rfl
  show _ ∧ _
  rw [hz] at he ⊢
  exact ⟨⟨_, he, rfl⟩, h _ he (Heap.get?_push_of_some _ (Heap.get?_push_size _ B.free)) fun b o x => Heap.get?_push_of_some _ (Heap.get?_push_of_some _ x)⟩
/-- enumerate(xs) of a list or a tuple -/
theorem pi_enumX (hg : Gl X "enumerate") (hm : X.mg "enumerate" = none) (ha : PA X [e] ta) (hs : starEach [e] X.env = [(false, eval e X.env)] := by rfl) :
    PI X (.Tuple elts kk tpos) (.Call (.Name "enumerate" p) [e] [] pos) (iEnX X.K ta) := by
  refine ⟨fun pins s σ H R I h => ?_⟩
  refine Call_ (ld_blt I hg hm boot_enumerate (PyProof.Rows.callWith_type1 (thn (ha.run pos pins s σ H _ I h) fun us s2 ⟨vs, H2, I2, r1, a, ea, xs, q2⟩ => ?_) hs rfl))
  subst ea
  obtain rfl := Vals.ref1 r1
  rcases q2 with ⟨hq, q⟩ | ⟨hq, q⟩
  · obtain ⟨its, rv, p', _⟩ := I2.list hq
    exact enum_begins1 (begins_list a its.toArray) p'.isList fun h' he hg' hk' => en_go I2 q p'.lt (turn_enL 0 a _ _) (fun h' e' => ⟨_, e', rfl, rfl⟩) h' he hg' hk'
  · obtain ⟨its, rv, p', _⟩ := I2.tuple hq
    obtain ⟨o1, ho1, _⟩ := id p'
    exact enum_begins1 (begins_tuple a its.toArray) p' fun h' he hg' hk' => en_go I2 q (Heap.lt_size ho1) (turn_enT 0 a _ _) (fun h' e' => ⟨_, e', rfl, rfl⟩) h' he hg' hk'
/-! ### the walk -/
theorem go_enumS {σ : St} {H : Hp} {R : It → Hp → Prop} {K : PySem.W.Frag} (h : ta σ H fun vs H1 => tk σ H1 fun zs H2 => EnS K vs R zs H2) : iEnS K ta tk σ H R := h
theorem go_enumX {σ : St} {H : Hp} {R : It → Hp → Prop} {K : PySem.W.Frag} (h : ta σ H fun vs H1 => EnX K vs R H1) : iEnX K ta σ H R := h
theorem go_enSL {H : Hp} {R : It → Hp → Prop} {K : PySem.W.Frag} {a : Addr} {k0 : Int} {xs : List V} (hs : SqL K H a xs) (hk : -100000 ≤ k0 ∧ k0 ≤ 100000) (h : R (Itk (SqL K) k0 a) H) : EnS K [.ref a] R [.int k0] H := ⟨a, k0, rfl, rfl, ⟨by omega, by omega⟩, xs, .inl ⟨hs, h⟩⟩
theorem go_enXL {H : Hp} {R : It → Hp → Prop} {K : PySem.W.Frag} {a : Addr} {xs : List V} (hs : SqL K H a xs) (h : R (Itk (SqL K) 0 a) H) : EnX K [.ref a] R H := ⟨a, rfl, xs, .inl ⟨hs, h⟩⟩
theorem go_enXT {H : Hp} {R : It → Hp → Prop} {K : PySem.W.Frag} {a : Addr} {xs : List V} (hs : SqT K H a xs) (h : R (Itk (SqT K) 0 a) H) : EnX K [.ref a] R H := ⟨a, rfl, xs, .inr ⟨hs, h⟩⟩
theorem walk_en {Sq : Hp → Addr → List V → Prop} {k0 : Int} {a : Addr} {xs : List V} : Walk (Itk Sq k0 a) xs.length (fun H => Sq H a xs) (YPair (fun i => some (.int (k0 + (i : Nat)))) (fun i => xs[i]?)) :=
  ⟨fun i _ hi q => ⟨xs, xs[i], q, List.getElem?_eq_getElem hi⟩, fun _ q => ⟨xs, q, rfl⟩, fun i H v H' _ q ⟨T, x, h1, h2, h3, h4⟩ => ⟨T, .int (k0 + (i : Nat)), x, h1, h2, h3, rfl, h4 xs q⟩⟩
end
end L2.A


namespace L2.A
open PySem PySem.Spec PyProof.Rows
open TL (tl)
/-! ### words of rows, rows of texts -/
def wl (l : List Nat) : List (List Nat) := (TL.spl [32] 0 [] l).filter (fun w => !w.isEmpty)
theorem spl_app {r : List Nat} : ∀ {l acc : List Nat}, TL.spl [32] 0 acc (l ++ 32 :: r) = TL.spl [32] 0 acc l ++ TL.spl [32] 0 [] r
  | [], acc => by
    show TL.spl [32] 0 acc (32 :: r) = _
    rw [TL.spl_hit (by rfl), TL.spl_nil]; rfl
  | c :: l, acc => by
    show TL.spl [32] 0 acc (c :: (l ++ 32 :: r)) = _
    by_cases h : c = 32
    · subst h
      rw [TL.spl_hit (by rfl), TL.spl_hit (by rfl)]
      show acc :: TL.spl [32] 0 [] (l ++ 32 :: r) = acc :: TL.spl [32] 0 [] l ++ _
      rw [spl_app]; rfl
    · rw [TL.spl_miss (TL.pre_of_head _ _ h), TL.spl_miss (TL.pre_of_head _ _ h), spl_app]
theorem wl_app {l r : List Nat} : wl (l ++ 32 :: r) = wl l ++ wl r := by unfold wl; rw [spl_app, List.filter_append]
theorem wl_nil : wl [] = [] := rfl
theorem wl_one {w : List Nat} (f : 32 ∉ w) : wl w = if w = [] then [] else [w] := by
  unfold wl
  rw [TL.spl_last1 f]
  cases w <;> rfl
theorem wl_sp {l : List Nat} : wl (l ++ [32]) = wl l := by rw [wl_app, wl_nil, List.append_nil]
theorem wl_rep {l : List Nat} : ∀ n, wl (l ++ List.replicate n 32) = wl l
  | 0 => by rw [List.replicate_zero, List.append_nil]
  | n + 1 => by rw [List.replicate_succ', ← List.append_assoc, wl_sp, wl_rep n]
/-- nothing, or a blank at the end -/
def EndB (l : List Nat) : Prop := l = [] ∨ ∃ m, l = m ++ [32]
theorem EndB.rep {l : List Nat} (h : EndB l) (n : Nat) : EndB (l ++ List.replicate n 32) := by
  cases n with
  | zero => rw [List.replicate_zero, List.append_nil]; exact h
  | succ n => rw [List.replicate_succ', ← List.append_assoc]; exact .inr ⟨_, rfl⟩
theorem EndB.rep1 {l : List Nat} {n : Nat} (h : 1 ≤ n) : EndB (l ++ List.replicate n 32) := by
  obtain ⟨m, rfl⟩ : ∃ m, n = m + 1 := ⟨n - 1, by omega⟩
  rw [List.replicate_succ', ← List.append_assoc]
  exact .inr ⟨_, rfl⟩
theorem wl_snoc {l w : List Nat} (h : EndB l) (f : 32 ∉ w) : wl (l ++ w) = wl l ++ if w = [] then [] else [w] := by
  rcases h with rfl | ⟨m, rfl⟩
  · rw [List.nil_append, wl_nil, List.nil_append, wl_one f]
  · rw [List.append_assoc]
    show wl (m ++ 32 :: w) = _
    rw [wl_app, wl_sp, wl_one f]
def rwds (r : Str) : List Str := (wl (tl r)).map fun l => ⟨l.toArray⟩
theorem str_ne {w : Str} : decide (w = "") = (tl w).isEmpty := by
  have e : (Str.ofString "") = ⟨#[]⟩ := by decide +kernel
  cases h : tl w with
  | nil => exact decide_eq_true (by rw [e]; exact TL.ext_tl (by rw [h]))
  | cons c l => exact decide_eq_false (by rw [e]; intro z; rw [z] at h; cases h)
theorem split_blank (r : Str) : Txt.split r " " = (TL.spl [32] 0 [] (tl r)).map fun l => (⟨l.toArray⟩ : Str) := by
  apply TL.map_tl_inj
  have e : tl (" " : Str) = [32] := by decide +kernel
  rw [TL.split_spl r " " (by rw [e]; simp) (TL.kind_ok (by decide +kernel)), e, List.map_map]
  exact (List.map_id' _).symm
theorem split_words (r : Str) : (Txt.split r " ").filter (fun w : Str => !decide (w = ("" : Str))) = rwds r := by
  rw [split_blank, List.filter_map]
  unfold rwds wl
  congr 1
  apply List.filter_congr
  intro l _
  show (!decide ((⟨l.toArray⟩ : Str) = "")) = _
  rw [str_ne]
theorem words_nz {r w : Str} (h : w ∈ rwds r) : w ≠ ("" : Str) := by
  rw [← split_words] at h
  have := (List.mem_filter.mp h).2
  simpa using this
/-- what a text has put in: words are parts of it -/
theorem tl_blanks (n : Int) : tl (Txt.mul " " n) = List.replicate n.toNat 32 := by
  have e : (Str.ofString " ") = ⟨#[32]⟩ := by decide +kernel
  show tl (Txt.mul (Str.ofString " ") n) = _
  rw [e]
  exact mul_one_list 32 n
theorem blanks_ok {n : Int} (h0 : 0 ≤ n) (h : n ≤ 100) : MulOk " " n := by
  have l : (" " : Str).length = 1 := by decide +kernel
  refine ⟨?_, fun h1 _ => ?_, fun h1 _ => ?_⟩
  · rw [decide_eq_false (by omega), decide_eq_false (by omega)]; rfl
  · rw [l]
    have : 1 ≤ (2 ^ 63 - 1) / n := Int.le_ediv_of_mul_le (by omega) (by omega)
    omega
  · rw [l]
    unfold PySem.Builtin.Str.tooLong
    exact decide_eq_false (by unfold sizeLine; omega)
/-- rows with words, each with its number -/
def wr : Nat → List Str → List (Nat × List Str)
  | _, [] => []
  | k, r :: rs => if rwds r = [] then wr (k + 1) rs else (k, rwds r) :: wr (k + 1) rs
theorem wr_app {ys : List Str} : ∀ {k : Nat} {xs : List Str}, wr k (xs ++ ys) = wr k xs ++ wr (k + xs.length) ys
  | k, [] => rfl
  | k, x :: xs => by
    show (if rwds x = [] then wr (k + 1) (xs ++ ys) else (k, rwds x) :: wr (k + 1) (xs ++ ys)) = (if rwds x = [] then wr (k + 1) xs else (k, rwds x) :: wr (k + 1) xs) ++ _
    rw [wr_app, List.length_cons, show k + (xs.length + 1) = k + 1 + xs.length by omega]
    split <;> rfl
theorem wr_snoc {k : Nat} {xs : List Str} {r : Str} : wr k (xs ++ [r]) = wr k xs ++ if rwds r = [] then [] else [(k + xs.length, rwds r)] := by
  rw [wr_app]
  rfl
theorem wr_len {k : Nat} : ∀ {xs : List Str}, (wr k xs).length ≤ xs.length
  | [] => Nat.le_refl _
  | x :: xs => by
    show (if rwds x = [] then wr (k + 1) xs else (k, rwds x) :: wr (k + 1) xs).length ≤ xs.length + 1
    have := wr_len (k := k + 1) (xs := xs)
    split
    · omega
    · rw [List.length_cons]; omega
theorem tl_nl : tl ("\n" : Str) = [10] := by decide +kernel
theorem words_empty : rwds "" = [] := by decide +kernel
/-- a text's rows -/
theorem rows_join {rows : List Str} (h : ∀ r ∈ rows, 10 ∉ tl r) : Txt.split (Txt.join "\n" rows) "\n" = if rows = [] then [("" : Str)] else rows := by
  cases rows with
  | nil => decide +kernel
  | cons r rs => rw [if_neg (by simp)]; exact TL.split_join tl_nl (by decide +kernel) (by simp) h
theorem wr_join {rows : List Str} (h : ∀ r ∈ rows, 10 ∉ tl r) : wr 1 (Txt.split (Txt.join "\n" rows) "\n") = wr 1 rows := by
  rw [rows_join h]
  split
  · subst rows; show (if rwds "" = [] then _ else _) = _; rw [if_pos words_empty]; rfl
  · rfl
theorem join_len : ∀ {rows : List Str} {L : Nat}, (∀ r ∈ rows, r.length ≤ L) → (rows.map (·.length)).sum ≤ rows.length * L
  | [], _, _ => Nat.zero_le _
  | r :: rs, L, h => by
    rw [List.map_cons, List.sum_cons, List.length_cons, Nat.succ_mul]
    have h1 := h r (List.mem_cons_self ..)
    have h2 := join_len fun x m => h x (List.mem_cons_of_mem _ m)
    omega
theorem text_len {rows : List Str} {L : Nat} (h : ∀ r ∈ rows, r.length ≤ L) : (Txt.join "\n" rows).length ≤ rows.length * (L + 1) := by
  rw [TL.join_eq, TL.len_tl, TL.tl_join, tl_nl]
  induction rows with
  | nil => exact Nat.zero_le _
  | cons r rs ih =>
    have h1 := h r (List.mem_cons_self ..)
    have h2 := ih fun x m => h x (List.mem_cons_of_mem _ m)
    rw [TL.len_tl] at h1
    cases rs with
    | nil => show (tl r).length ≤ _; rw [List.length_cons, List.length_nil]; omega
    | cons q rs =>
      show (tl r ++ ([10] ++ TL.joinL [10] ((q :: rs).map tl))).length ≤ _
      rw [List.length_append, List.length_append, List.length_cons (a := r), Nat.succ_mul]
      show _ + (1 + _) ≤ _
      omega

/-! ### constants that are tuples -/
def tdB (K : PySem.W.Frag) (a : Addr) : Bool := match K.lookup a with
  | some o => decide (o.cls = .type "tuple") && o.dict.isNone
  | none => false
theorem tdB_ok {K : PySem.W.Frag} {a : Addr} (h : tdB K a = true) : ∃ o, K.lookup a = some o ∧ o.cls = .type "tuple" ∧ o.dict = none := by
  unfold tdB at h
  cases q : K.lookup a with
  | none => rw [q] at h; cases h
  | some o =>
    rw [q] at h
    have h2 : decide (o.cls = .type "tuple") = true ∧ o.dict.isNone = true := by simpa using h
    exact ⟨o, rfl, of_decide_eq_true h2.1, Option.isNone_iff_eq_none.mp h2.2⟩
theorem tyV_tK {K : PySem.W.Frag} {H : Hp} {p : Addr} (h : ∃ o, K.lookup p = some o ∧ o.cls = .type "tuple" ∧ o.dict = none) : tyV K "tuple" (.ref p) H := .inr (.inl ⟨rfl, h⟩)
theorem go_tix {K : PySem.W.Frag} {H : Hp} {Q : VK} {p : Addr} {ys : List Str} {z : Str} {j : Nat} (hp : SqT K H p (ys.map V.str)) (e : ys[j]? = some z) (n : ∀ m, m < j → ys[m]? ≠ some z) (h : Q (.int (j : Nat)) H) :
    ∃ p', ∃ ys' : List Str, ∃ z' j', V.ref p = .ref p' ∧ [V.str z] = [.str z'] ∧ SqT K H p' (ys'.map V.str) ∧ ys'[j']? = some z' ∧ (∀ m, m < j' → ys'[m]? ≠ some z') ∧ Q (.int (j' : Nat)) H := ⟨p, ys, z, j, rfl, rfl, hp, e, n, h⟩
theorem go_ins {H : Hp} {Q : VK} {l : Addr} {xs : List V} {i : Int} {y : V} (hl : H l = some (.lst xs)) (z : xs.length < 100000) (h0 : 0 ≤ i ∧ i < 100000) (h : Q .non (upd H l (.lst (xs.take i.toNat ++ [y] ++ xs.drop i.toNat)))) :
    ∃ (l' : Addr) (xs' : List V) (i' : Int) (y' : V), V.ref l = .ref l' ∧ [V.int i, y] = [.int i', y'] ∧ H l' = some (.lst xs') ∧ xs'.length < sizeLine ∧ 0 ≤ i' ∧ i' < 2 ^ 63 ∧ Q .non (upd H l' (.lst (xs'.take i'.toNat ++ [y'] ++ xs'.drop i'.toNat))) :=
  ⟨l, xs, i, y, rfl, rfl, hl, Nat.lt_of_lt_of_le z (by decide), h0.1, by omega, h⟩
theorem go_split2 {H : Hp} {Q : VK} {a b : Str} (h1 : (b.length == 0) = false) (h2 : a.length ≤ 1000000) (h : NewO (.lst ((Txt.split a b).map V.str)) H Q) :
    (∃ a' b', V.str a = .str a' ∧ [V.str b] = [.str b'] ∧ (b'.length == 0) = false ∧ a'.length + 2 ≤ sizeLine ∧ rNewStrs (Txt.split a' b') H Q) := ⟨a, b, rfl, rfl, h1, Nat.le_trans (show a.length + 2 ≤ 1000002 by omega) (by decide), h⟩
/-! ### zip of two lists, or of two tuples -/
def ZpA (K : PySem.W.Frag) (vs : List V) (H1 : Hp) (R : It → Hp → Prop) : Prop := ∃ a b xs ys, vs = [.ref a, .ref b] ∧ ((SqL K H1 a xs ∧ SqL K H1 b ys ∧ R (Itz K a b) H1) ∨ (SqT K H1 a xs ∧ SqT K H1 b ys ∧ R (RZ.ItzT K a b) H1))
theorem go_zipA {K : PySem.W.Frag} {σ : St} {H : Hp} {ta : TA} {R : It → Hp → Prop} (h : ta σ H fun vs H1 => ZpA K vs H1 R) : RZ.iZipA K ta σ H R := h
theorem go_zAL {K : PySem.W.Frag} {H : Hp} {a b : Addr} {xs ys : List V} {R : It → Hp → Prop} (hS : SqL K H a xs) (hT : SqL K H b ys) (h : R (Itz K a b) H) : ZpA K [.ref a, .ref b] H R := ⟨a, b, xs, ys, rfl, .inl ⟨hS, hT, h⟩⟩
theorem go_zAT {K : PySem.W.Frag} {H : Hp} {a b : Addr} {xs ys : List V} {R : It → Hp → Prop} (hS : SqT K H a xs) (hT : SqT K H b ys) (h : R (RZ.ItzT K a b) H) : ZpA K [.ref a, .ref b] H R := ⟨a, b, xs, ys, rfl, .inr ⟨hS, hT, h⟩⟩
theorem walk_zipT {K : PySem.W.Frag} {a b : Addr} {xs ys : List V} (hn : xs.length = ys.length) : Walk (RZ.ItzT K a b) xs.length (fun H => SqT K H a xs ∧ SqT K H b ys) (YPair (fun i => xs[i]?) (fun i => ys[i]?)) := by
  refine ⟨fun i _ hi q => ⟨xs, ys, xs[i], ys[i]'(by omega), q.1, q.2, List.getElem?_eq_getElem hi, List.getElem?_eq_getElem (by omega)⟩, fun _ q => ⟨xs, ys, q.1, q.2, .inl (Nat.le_refl _)⟩, fun i H v H' _ q y => ?_⟩
  obtain ⟨T, x, z, h1, h2, h3, h4, h5⟩ := y
  exact ⟨T, x, z, h1, h2, h3, h4 xs q.1, h5 ys q.2⟩
/-! ### two lists item by item -/
inductive All2 {α β : Type} (R : α → β → Prop) : List α → List β → Prop
  | nil : All2 R [] []
  | cons {a b as bs} : R a b → All2 R as bs → All2 R (a :: as) (b :: bs)
theorem All2.mono {α β : Type} {R S : α → β → Prop} (h : ∀ a b, R a b → S a b) : ∀ {as : List α} {bs : List β}, All2 R as bs → All2 S as bs
  | _, _, .nil => .nil
  | _, _, .cons x y => .cons (h _ _ x) (y.mono h)
theorem All2.snoc {α β : Type} {R : α → β → Prop} {a : α} {b : β} : ∀ {as : List α} {bs : List β}, All2 R as bs → R a b → All2 R (as ++ [a]) (bs ++ [b])
  | _, _, .nil, h => .cons h .nil
  | _, _, .cons x y, h => .cons x (y.snoc h)
theorem All2.len {α β : Type} {R : α → β → Prop} : ∀ {as : List α} {bs : List β}, All2 R as bs → as.length = bs.length
  | _, _, .nil => rfl
  | _, _, .cons _ y => by rw [List.length_cons, List.length_cons, y.len]
theorem All2.at {α β : Type} {R : α → β → Prop} {a : α} : ∀ {as : List α} {bs : List β} {i : Nat}, All2 R as bs → as[i]? = some a → ∃ b, bs[i]? = some b ∧ R a b
  | _, _, 0, .cons x _, h => by cases h; exact ⟨_, rfl, x⟩
  | _, _, i + 1, .cons _ y, h => y.at (i := i) h
theorem kit_nl : kitB "NoneType" "list" = some false := by decide +kernel
theorem kit_il : kitB "int" "list" = some false := by decide +kernel
theorem kit_it : kitB "int" "tuple" = some false := by decide +kernel
theorem kit_sl : kitB "str" "list" = some false := by decide +kernel
theorem kit_st : kitB "str" "tuple" = some false := by decide +kernel
end L2.A


namespace L2.A
open PySem PySem.Spec PyProof.Rows
/-! ### a list taken apart -/
section
variable {prog : Program} {w : World} {A : Around} {E : Value → Shared → Prop} {s : Shared}
theorem draw_list {it t : Addr} {items : Array Value} (hne : t ≠ it) : ∀ (n i : Nat) (s : Shared) (Q : List Value → Shared → Prop), s.heap.IsListIter it t i → s.heap.IsList t items → i + n ≤ items.size →
    (∀ h', h'.IsListIter it t (i + n) → Heap.SameBut it s.heap h' → Q ((items.toList.drop i).take n) { s with heap := h' }) → wpAny (model prog w) A (draw (.ref it) n) Q E s
  | 0, i, s, Q, hit, _, _, hQ => by
    show wpAny _ _ (pure []) Q E s
    exact wpAny_pure (by simpa using hQ s.heap hit (Heap.SameBut.refl ..))
  | n + 1, i, s, Q, hit, ht, hle, hQ => by
    have hlt : i < items.size := by omega
    show wpAny _ _ (pyNext (.ref it) >>= _) Q E s
    refine wpAny_bind (wpAny_pyNext_list_item hit ht (x := items[i]) (by simp [hlt]) fun h₁ hit₁ hs₁ => ?_)
    refine wpAny_bind (wpAny_holding (draw_list hne n (i + 1) _ _ hit₁ (ht.extBut hs₁.extBut hne) (by omega) fun h₂ hit₂ hs₂ => wpAny_pure ?_))
    have hd : items.toList.drop i = items[i] :: items.toList.drop (i + 1) := by simp [List.drop_eq_getElem_cons, hlt]
    have := hQ h₂ (by rw [show i + (n + 1) = i + 1 + n by omega]; exact hit₂) (hs₁.trans hs₂)
    rw [hd, List.take_succ_cons] at this
    exact this
theorem unpackItems_list {t : Addr} {items : Array Value} {Q : List Value → Shared → Prop} (hh : A.handled = none) (ht : s.heap.IsList t items)
    (hQ : ∀ h', Heap.ExtBut s.heap.objs.size s.heap h' → Q items.toList { s with heap := h' }) : wpAny (model prog w) A (unpackItems (.ref t) items.size none) Q E s := by
  have hlt : t ≠ s.heap.objs.size := by obtain ⟨o, ho, _⟩ := ht; exact Nat.ne_of_lt (Heap.lt_size ho)
  unfold unpackItems
  refine wpAny_bind ?_
  · unfold notIterableAtAll
    refine wpAny_bind (wpAny_specialOf ht.typeIs slot_list_iter.lookup ?_)
    refine wpAny_pure ?_
    simp only [Bool.false_eq_true, if_false]
    refine wpAny_bind (wpAny_holding (wpAny_pyIter_list ht ?_))
    refine wpAny_bind (wpAny_holding (draw_list hlt items.size 0 _ _ ⟨_, Heap.get?_push_size _ rfl, rfl, rfl⟩ (ht.push _) (by omega) fun h₁ hit₁ hs₁ => ?_))
    have hall : List.take items.size (List.drop 0 items.toList) = items.toList := by
      rw [List.drop_zero]; exact List.take_of_length_le (by simp)
    rw [hall]
    rw [if_neg (by simp)]
    have ht₁ : h₁.IsList t items := (ht.push _).extBut hs₁.extBut hlt
    refine wpAny_bind (wpAny_holding (wpAny_pyNext_list_end hh hit₁ ht₁ (by simp) fun h₂ he₂ => ?_))
    simp only [Option.isSome_none, Bool.false_eq_true, if_false]
    refine wpAny_pure (hQ h₂ fun b o hb e => he₂ b o hb (hs₁.extBut b o hb (Heap.get?_push_of_some _ e)))
theorem unpack_list {t : Addr} {items : Array Value} {targets : List (Bool × (Value → Sem Unit))} {Q : Unit → Shared → Prop} (hh : A.handled = none) (ht : s.heap.IsList t items)
    (hn : targets.length = items.size) (hstar : targets.findIdx? (·.1) = none)
    (h : ∀ h', Heap.ExtBut s.heap.objs.size s.heap h' → wpAny (model prog w) A (assignInOrder (targets.map (·.2)) items.toList) Q E { s with heap := h' }) :
    wpAny (model prog w) A (unpack (.ref t) targets) Q E s := by
  unfold unpack
  rw [hn, hstar]
  exact wpAny_bind (wpAny_holding (unpackItems_list hh ht h))
theorem assign_Tuple_list {env : Env} {elts : List Expr} {x1} {pos : Pos} {t : Addr} {items : Array Value} {Q : Unit → Shared → Prop} (hh : A.handled = none) (ht : s.heap.IsList t items)
    (hn : (assignEach elts env).length = items.size) (hstar : (assignEach elts env).findIdx? (·.1) = none)
    (h : ∀ h', Heap.ExtBut s.heap.objs.size s.heap h' → wpAny (model prog w) A (assignInOrder ((assignEach elts env).map (·.2)) items.toList) Q E { s with heap := h' }) :
    wpAny (model prog w) A (assign (.Tuple elts x1 pos) env (.ref t)) Q E s := by
  rw [assign_Tuple]
  exact wpAny_bind (wpAny_standAt (unpack_list hh ht hn hstar h))
end
section
variable {X : Cx} {pos : Pos}
def gTupA (K : PySem.W.Frag) (n : Nat) (t : TGs) : TG := fun v σ H Q => ∃ a xs, v = .ref a ∧ (SqT K H a xs ∨ SqL K H a xs) ∧ xs.length = n ∧ t xs σ H Q
theorem pg_tupA {es : List Expr} {k : Nat} {t : TGs} {n : Nat} (hc : X.calm = true) (h : PGs X es t)
    (hn : (assignEach es X.env).length = n := by rfl) (hst : (assignEach es X.env).findIdx? (·.1) = none := by rfl) : PG X (.Tuple es k pos) (gTupA X.K n t) := by
  refine ⟨fun pins s σ H v u Q I r hw => ?_⟩
  obtain ⟨a, xs, e1, hq, hl, hw⟩ := hw
  subst e1
  cases r
  rcases hq with hq | hq
  · obtain ⟨its, rv, ht, hz⟩ := I.tuple hq
    refine assign_Tuple_tuple (I.ok.hd hc) ht (by simp [hn, ← hl, rv.length]) hst fun h' hx => ?_
    have I1 : Inv X pins σ H { s with heap := h' } := I.kept (t' := s.toks) fun b o e => hx b o (Nat.ne_of_lt (Heap.lt_size e)) e
    exact h.run pins _ σ H xs _ Q I1 (by simpa using rv) hw
  · obtain ⟨its, rv, ht, hz⟩ := I.list hq
    refine assign_Tuple_list (I.ok.hd hc) ht.isList (by simp [hn, ← hl, rv.length]) hst fun h' hx => ?_
    have I1 : Inv X pins σ H { s with heap := h' } := I.kept (t' := s.toks) fun b o e => hx b o (Nat.ne_of_lt (Heap.lt_size e)) e
    exact h.run pins _ σ H xs _ Q I1 (by simpa using rv) hw
theorem pg_tupAK {K : PySem.W.Frag} (hK : X.K = K) {es : List Expr} {k : Nat} {t : TGs} {n : Nat} (hc : X.calm = true) (h : PGs X es t)
    (hn : (assignEach es X.env).length = n := by rfl) (hst : (assignEach es X.env).findIdx? (·.1) = none := by rfl) : PG X (.Tuple es k pos) (gTupA K n t) := hK ▸ pg_tupA hc h hn hst
end
/-! ### methods within a comprehension, a try: the rules that name the fragment -/
section
variable {X : Cx} {K : PySem.W.Frag} {o e : Expr} {es : List Expr} {to : TE} {t : TA} {name : Str} {apos cpos : Pos} {T id : String} {r : V → List V → Hp → VK → Prop}
theorem pe_bm0K (hK : X.K = K) (pa : PlainAttrs T) (slot : Slot T name id) (hty : typeOf (.builtin id) = pure (.type "method_descriptor")) (hm : MtR X id r) (ho : PE X o to)
    (hbase : attributeBase o name X.env (eval o X.env) = eval o X.env := by rfl) (hline : (apos.endLine == cpos.line) = true := by rfl) : PE X (.Call (.Attribute o name apos) [] [] cpos) (tBM0 K T r to) := hK ▸ pe_bm0 pa slot hty hm ho hbase hline
theorem pe_bmK (hK : X.K = K) (pa : PlainAttrs T) (slot : Slot T name id) (hty : typeOf (.builtin id) = pure (.type "method_descriptor")) (hm : MtR X id r) (ho : PE X o to) (ha : PA X (e :: es) t)
    (hbase : attributeBase o name X.env (eval o X.env) = eval o X.env := by rfl)
    (hfew : ((backTo cpos (starEach (e :: es) X.env)).all (fun x => !x.1) && (backToKw cpos (keywordEach [] X.env)).all (fun x => x.1.isSome)
      && decide ((e :: es).length + ([] : List Keyword).length + (if ([] : List Keyword).isEmpty then 0 else 1) < 30)) = true := by rfl)
    (hline : (apos.endLine == cpos.line) = true := by rfl) (hs : starEach (e :: es) X.env = (false, eval e X.env) :: starEach es X.env := by rfl) (hplain : (backTo cpos (starEach es X.env)).any (·.1) = false := by rfl) :
    PE X (.Call (.Attribute o name apos) (e :: es) [] cpos) (tBM K T r to t) := hK ▸ pe_bm pa slot hty hm ho ha hbase hfew hline hs hplain
theorem mt_joinK (hK : X.K = K) : MtR X "str.join" (fun x xs H Q => ∃ a p, ∃ ys : List Str, x = .str a ∧ xs = [.ref p] ∧ (SqL K H p (ys.map V.str) ∨ SqT K H p (ys.map V.str)) ∧
    (ys.map (·.length)).sum + ys.length * a.length ≤ 16777216 ∧ Q (.str (Txt.join a ys)) H) := hK ▸ mt_join
theorem mt_tup_indexK (hK : X.K = K) : MtR X "tuple.index" (fun x xs H Q => ∃ p, ∃ ys : List Str, ∃ z j, x = .ref p ∧ xs = [.str z] ∧ SqT K H p (ys.map V.str) ∧ ys[j]? = some z ∧ (∀ m, m < j → ys[m]? ≠ some z) ∧ Q (.int (j : Nat)) H) := hK ▸ mt_tup_index
theorem mt_indexK (hK : X.K = K) : MtR X "list.index" (rIndex K) := hK ▸ mt_index
end
theorem go_gtupT {K : PySem.W.Frag} {H : Hp} {σ : St} {QS : St → Hp → Prop} {n : Nat} {tg : TGs} {a : Addr} {xs : List V} (hs : SqT K H a xs) (hl : xs.length = n) (h : tg xs σ H QS) : gTupA K n tg (.ref a) σ H QS := ⟨a, xs, rfl, .inl hs, hl, h⟩
theorem go_gtupL {K : PySem.W.Frag} {H : Hp} {σ : St} {QS : St → Hp → Prop} {n : Nat} {tg : TGs} {a : Addr} {xs : List V} (hs : SqL K H a xs) (hl : xs.length = n) (h : tg xs σ H QS) : gTupA K n tg (.ref a) σ H QS := ⟨a, xs, rfl, .inr hs, hl, h⟩
end L2.A


namespace L2.A
open PySem PySem.Spec PyProof.Rows
/-! ### what stands still (F), what is alive (L) -/
structure Sta (F : Hp) (L : Cells) (H : Hp) : Prop where
  fz : Same F H
  lay : Lay L H
  off : ∀ a ∈ L.map Prod.fst, F a = none
section
variable {F F' : Hp} {L L' B B' R : Cells} {H H' : Hp} {a p : Addr} {o o' : HO} {xs : List V}
theorem Sta.of (st : Sta F L H) (e : F p = some o) : H p = some o := st.fz _ _ e
theorem Sta.get (st : Sta F L H) (m : (p, o) ∈ L) : H p = some o := st.lay.get m
theorem Sta.nil : Sta H [] H := ⟨.refl _, .nil, fun _ m => nomatch m⟩
theorem Sta.same (st : Sta F L H) (s : Same H H') : Sta F L H' := ⟨st.fz.trans s, st.lay.same s, st.off⟩
theorem Sta.perm (st : Sta F L H) (p : L.Perm L') : Sta F L' H := ⟨st.fz, st.lay.perm p, fun a m => st.off a ((p.map Prod.fst).mem_iff.mpr m)⟩
theorem Sta.left (st : Sta F (B ++ R) H) : Sta F B H := ⟨st.fz, st.lay.left, fun a m => st.off a (by rw [List.map_append]; exact List.mem_append_left _ m)⟩
theorem Sta.pull (st : Sta F L H) (p : L.Perm (B ++ R)) : Sta F B H := (st.perm p).left
theorem Sta.free (st : Sta F L H) (n : H p = none) : F p = none := st.fz.free n
theorem Sta.newF (st : Sta F L H) (n : H p = none) (s : Same H H') (e : H' p = some o) : ∃ F', Same F F' ∧ F' p = some o ∧ Sta F' L H' := by
  refine ⟨upd F p o, same_new (st.free n), upd_same, fun b u q => ?_, st.lay.same s, fun b m => ?_⟩
  · by_cases z : b = p
    · subst z; rw [upd_same] at q; cases q; exact e
    · rw [upd_ne z] at q; exact s _ _ (st.fz _ _ q)
  · rw [upd_ne (fun z => st.lay.free n (by rw [← z]; exact m))]; exact st.off b m
theorem Sta.newL (st : Sta F L H) (n : H p = none) (s : Same H H') (e : H' p = some o) (m : isMutB o = true) : Sta F ((p, o) :: L) H' :=
  ⟨st.fz.trans s, (st.lay.same s).cons (st.lay.free n) e m, fun b q => by
    rcases List.mem_cons.mp q with rfl | q
    · exact st.free n
    · exact st.off b q⟩
theorem Sta.put (st : Sta F L H) (p : L.Perm ((a, o) :: R)) (m : isMutB o' = true) : Sta F ((a, o') :: R) (upd H a o') := by
  have x := Ext.put (Ext.refl st.lay) p m
  have st' := st.perm p
  refine ⟨fun b u q => ?_, x.lay, fun b q => st'.off b q⟩
  rw [upd_ne (fun z => by rw [z, st'.off a (List.mem_cons_self ..)] at q; cases q)]
  exact st.fz _ _ q
theorem Sta.freeze (st : Sta F L H) (p : L.Perm ((a, o) :: R)) : ∃ F', Same F F' ∧ F' a = some o ∧ Sta F' R H := by
  have st' := st.perm p
  have fa := st'.off a (List.mem_cons_self ..)
  have nd := st'.lay.nd
  rw [List.map_cons, List.nodup_cons] at nd
  refine ⟨upd F a o, same_new fa, upd_same, fun b u q => ?_, ⟨nd.2, fun c m => st'.lay.has c (List.mem_cons_of_mem _ m), fun c m => st'.lay.mt c (List.mem_cons_of_mem _ m)⟩, fun b m => ?_⟩
  · by_cases z : b = a
    · subst z; rw [upd_same] at q; cases q; exact st'.lay.has _ (List.mem_cons_self ..)
    · rw [upd_ne z] at q; exact st.fz _ _ q
  · rw [upd_ne (fun z => nd.1 (by rw [← z]; exact m))]; exact st'.off b (List.mem_cons_of_mem _ m)
theorem Sta.ext (st : Sta F (B ++ R) H) (x : Ext B B' H H') : Sta F (B' ++ R) H' := by
  have y := Ext.frame st.lay x
  refine ⟨fun b u q => y.kp b u (st.fz _ _ q) (fun m => by rw [st.off b m] at q; cases q), y.lay, fun b m => ?_⟩
  rcases y.new b m with z | z
  · exact st.off b z
  · exact st.free z
theorem Sta.call (st : Sta F L H) (p : L.Perm (B ++ R)) (x : Ext B B' H H') : Sta F (B' ++ R) H' := (st.perm p).ext x
/-- what may change under the name p alone -/
theorem Sta.kp1 (st : Sta F ((a, o) :: R) H) (k : Kp (fun b => b = a) H H') (e : H' a = some o') (m : isMutB o' = true) : Sta F ((a, o') :: R) H' := by
  have nd := st.lay.nd
  rw [List.map_cons, List.nodup_cons] at nd
  have fa := st.off a (List.mem_cons_self ..)
  refine ⟨fun b u q => k _ _ (st.fz _ _ q) (fun z => by rw [z, fa] at q; cases q), ⟨st.lay.nd, fun c q => ?_, fun c q => ?_⟩, fun b q => st.off b q⟩
  · rcases List.mem_cons.mp q with rfl | q
    · exact e
    · exact k _ _ (st.lay.has c (List.mem_cons_of_mem _ q)) (fun z => nd.1 (by have z2 : c.1 = a := z; rw [show (a, o).fst = c.1 from z2.symm]; exact List.mem_map_of_mem q))
  · rcases List.mem_cons.mp q with rfl | q
    · exact m
    · exact st.lay.mt c (List.mem_cons_of_mem _ q)
theorem Sta.seqL {K : PySem.W.Frag} (st : Sta F L H) (h : SqL K F a xs) : SqL K H a xs := seqL_same h st.fz
theorem Sta.seqT {K : PySem.W.Frag} (st : Sta F L H) (h : SqT K F a xs) : SqT K H a xs := seqT_same h st.fz
theorem Sta.dp {K : PySem.W.Frag} {v : V} {d : PyData} (st : Sta F L H) (h : Dp K F v d) : Dp K H v d := Dp.same st.fz d v h
theorem Sta.nof (st : Sta F L H) (e : F p = some o) : p ∉ L.map Prod.fst := fun m => by rw [st.off p m] at e; cases e
end
section
variable {K : PySem.W.Frag} {f : Str} {y z v : V} {D : Ends} {σ : St} {Q : VK} {QS : St → Hp → Prop} {QH : Hp → Prop} {a C dx l : Addr} {fs fs' : List (Str × V)} {F : Hp} {L R : Cells} {H : Hp} {xs ys : List V} {o : HO}
/-! #### steps: new objects, stores -/
theorem go_newF (st : Sta F L H) (h : ∀ p F' H', Same F F' → F' p = some o → Sta F' L H' → Q (.ref p) H') : NewO o H Q := fun p hp => by
  obtain ⟨F', s, e, st'⟩ := st.newF hp (same_new hp) upd_same
  exact h p F' _ s e st'
theorem go_newLv (st : Sta F L H) (m : isMutB o = true) (h : ∀ p H', Sta F ((p, o) :: L) H' → Q (.ref p) H') : NewO o H Q := fun p hp => h p _ (st.newL hp (same_new hp) upd_same m)
theorem go_sfldS (st : Sta F L H) (p : L.Perm ((a, .ins C dx fs) :: R)) (c : Cls K C) (n : NoAttr K C f) (s : Nat.ble fs.length 900 = true) (e : putF f y fs = fs')
    (h : ∀ H', Sta F ((a, .ins C dx fs') :: R) H' → D.nx σ H') : SFldW K f y D σ (.ref a) H :=
  go_sfldW ((st.perm p).get (.head _)) c n s e (h _ (st.put p rfl))
theorem go_gfldS (st : Sta F L H) (p : L.Perm ((a, .ins C dx fs) :: R)) (c : Cls K C) (n : NoAttr K C f) (s : Nat.ble fs.length 900 = true) (e : putF f v fs = fs')
    (h : ∀ H', Sta F ((a, .ins C dx fs') :: R) H' → QS σ H') : GFldW K f v σ (.ref a) H QS :=
  go_gfldW ((st.perm p).get (.head _)) c n s e (h _ (st.put p rfl))
theorem go_astS (st : Sta F L H) (p : L.Perm ((a, .ins C dx fs) :: R)) (s : Nat.ble fs.length 900 = true) (e : putF f z fs = fs')
    (h : ∀ H', Sta F ((a, .ins C dx fs') :: R) H' → D.nx σ H') : AStW C f a D σ z H :=
  go_astW ((st.perm p).get (.head _)) s e (h _ (st.put p rfl))
theorem go_sLS {j : Int} {n : Nat} (st : Sta F L H) (p : L.Perm ((l, .lst xs) :: R)) (hj : ixN xs.length j = some n) (h : ∀ H', Sta F ((l, .lst (xs.set n v)) :: R) H' → QH H') : rSetX (.ref l) (.int j) v H QH :=
  go_sL ((st.perm p).get (.head _)) hj (h _ (st.put p rfl))
theorem go_appendS (st : Sta F L H) (p : L.Perm ((l, .lst xs) :: R)) (s : xs.length < 100000) (h : ∀ H', Sta F ((l, .lst (xs ++ [y])) :: R) H' → Q .non H') : rAppend (.ref l) [y] H Q :=
  go_append ((st.perm p).get (.head _)) s (h _ (st.put p rfl))
theorem go_extendS {q : Addr} (st : Sta F L H) (p : L.Perm ((l, .lst xs) :: R)) (e : H q = some (.lst ys)) (s : xs.length + ys.length < 100000) (h : ∀ H', Sta F ((l, .lst (xs ++ ys)) :: R) H' → Q .non H') : rExtend (.ref l) [.ref q] H Q :=
  ⟨l, q, xs, ys, rfl, rfl, (st.perm p).get (.head _), e, Nat.le_of_lt (Nat.lt_of_lt_of_le s (by decide)), h _ (st.put p rfl)⟩
theorem go_sSS {zs : List Str} {k : Str} (st : Sta F L H) (p : L.Perm ((l, setO zs) :: R)) (s : zs.length ≤ 10000) (h : ∀ H', Sta F ((l, setO (addS zs k)) :: R) H' → QH H') : rSetX (.ref l) (.str k) (.bl true) H QH :=
  go_sS ((st.perm p).get (.head _)) s (h _ (st.put p rfl))
theorem go_sCS {ks : List (Str × Int)} {k : Str} {n : Int} (st : Sta F L H) (p : L.Perm ((l, cntO ks) :: R)) (s : ks.length ≤ 10000) (h : ∀ H', Sta F ((l, cntO (cntP ks k n)) :: R) H' → QH H') : rSetX (.ref l) (.str k) (.int n) H QH :=
  go_sC ((st.perm p).get (.head _)) s (h _ (st.put p rfl))
theorem go_sKS {kvs kvs' : List (Key × V)} {k : Str} (st : Sta F L H) (p : L.Perm ((l, .dK kvs) :: R)) (s : Nat.ble kvs.length 1000 = true) (e : putK kvs (Sum.inr k) v = kvs') (h : ∀ H', Sta F ((l, .dK kvs') :: R) H' → QH H') : rSetX (.ref l) (.str k) v H QH :=
  go_sKs ((st.perm p).get (.head _)) (Nat.lt_of_le_of_lt (Nat.le_of_ble_eq_true s) (by decide)) (by rw [e]; exact h _ (st.put p rfl))
end
/-! #### comprehensions, loops -/
section
variable {K : PySem.W.Frag} {σ : St} {H : Hp} {D : Ends} {Q : VK} {J : It} {n : Nat} {G : Hp → Prop} {Y : Nat → Hp → V → Hp → Prop} {F : Hp} {L : Cells}
/-- a comprehension: R i ys F L what holds of the items made so far -/
theorem LcW.sta (w : Walk J n G Y) {g : TG} {tt : TT} {te : TE} {vs : List Nat} (R : Nat → List V → Hp → Cells → Prop) (hz : n ≤ 100000) (st : Sta F L H) (h0 : R 0 [] F L)
    (hG : ∀ i ys F L H, i ≤ n → Sta F L H → R i ys F L → G H)
    (hs : ∀ (A : Addr) i x ys F L H H', i < n → ys.length ≤ i → Sta F ((A, .lst ys) :: L) H → R i ys F L → Y i H x H' → ∀ (yes : V → Hp → Prop) (no : Hp → Prop),
      (∀ y F' L' H'', Sta F' ((A, .lst ys) :: L') H'' → R (i + 1) (ys ++ [y]) F' L' → yes y H'') → (∀ F' L' H'', Sta F' ((A, .lst ys) :: L') H'' → R (i + 1) ys F' L' → no H'') →
      g x (wipe σ vs) H' fun σ2 H2 => wipe σ2 vs = wipe σ vs ∧ tt σ2 H2 fun b H3 => if b = true then te σ2 H3 yes else no H3)
    (hd : ∀ (A : Addr) ys F L H', Sta F ((A, .lst ys) :: L) H' → ys.length ≤ n → R n ys F L → Q (.ref A) H') : LcW J g tt te vs σ H Q := by
  refine LcW.it w (fun A i ys H' => ∃ F L, Sta F ((A, .lst ys) :: L) H' ∧ R i ys F L) hz (fun A hA => ⟨F, L, st.newL hA (same_new hA) upd_same rfl, h0⟩) (fun A i ys H' _ hi _ ⟨F, L, st, r⟩ => hG i ys F L H' hi ⟨st.fz, st.lay.right (L := [(A, .lst ys)]), fun b m => st.off b (List.mem_cons_of_mem _ m)⟩ r) ?_ ?_
  · rintro A i x ys H1 H2 hA hi hl e ⟨F, L, st, r⟩ y yes no hy hn
    refine hs A i x ys F L H1 H2 hi hl st r y yes no (fun z F' L' H'' st' r' => hy z H'' (st'.get (.head _)) ⟨F', L', st'.put .rfl rfl, r'⟩) fun F' L' H'' st' r' => hn H'' (st'.get (.head _)) ⟨F', L', st', r'⟩
  · rintro A ys H' hA e hl ⟨F, L, st, r⟩
    exact hd A ys F L H' st hl r
theorem Sta.tail {c : Addr × HO} (st : Sta F (c :: L) H) : Sta F L H := ⟨st.fz, st.lay.right (L := [c]), fun b m => st.off b (List.mem_cons_of_mem _ m)⟩
end
end L2.A

namespace L2.A
open PySem PySem.Spec PyProof.Rows
theorem inv2 {k a b : Str} : inV (.str k) [.str a, .str b] = (decide (k = a) || decide (k = b)) := by
  simp [inV, eqV, Bool.beq_eq_decide_eq, eq_comm]
theorem inv3 {k a b c : Str} : inV (.str k) [.str a, .str b, .str c] = (decide (k = a) || (decide (k = b) || decide (k = c))) := by
  simp [inV, eqV, Bool.beq_eq_decide_eq, eq_comm]
theorem inv_ss {a : Str} {zs : List Str} : inV (.str a) (zs.map V.str) = decide (a ∈ zs) := by
  unfold inV
  rw [List.any_map]
  by_cases h : a ∈ zs
  · rw [decide_eq_true h, List.any_eq_true]
    exact ⟨a, h, by simp [eqV]⟩
  · rw [decide_eq_false h, List.any_eq_false]
    intro z m
    have : z ≠ a := fun e => h (e ▸ m)
    simpa [eqV, Bool.beq_eq_decide_eq] using this
/-- everything but what is alive stands still -/
theorem Sta.full {F : Hp} {L : Cells} {H : Hp} (st : Sta F L H) : ∃ G, Same F G ∧ Sta G L H ∧ ∀ a o, H a = some o → a ∉ L.map Prod.fst → G a = some o := by
  classical
  refine ⟨fun a => if a ∈ L.map Prod.fst then none else H a, fun a o e => ?_, ⟨fun a o e => ?_, st.lay, fun a m => ?_⟩, fun a o e m => ?_⟩
  · show (if a ∈ L.map Prod.fst then none else H a) = _
    rw [if_neg (st.nof e)]; exact st.fz _ _ e
  · have e : (if a ∈ L.map Prod.fst then none else H a) = some o := e
    split at e
    · cases e
    · exact e
  · show (if a ∈ L.map Prod.fst then none else H a) = _
    rw [if_pos m]
  · show (if a ∈ L.map Prod.fst then none else H a) = _
    rw [if_neg m]; exact e
/-- what a call lays anew beside what is alive -/
theorem Sta.merge {F G : Hp} {R B : Cells} {H H' : Hp} (st : Sta F R H) (s : Same H G) (sb : Sta G B H') : ∃ F', Same F F' ∧ Sta F' (B ++ R) H' ∧ ∀ a o, G a = some o → (isMutB o = false ∨ H a = none) → F' a = some o := by
  classical
  have inR : ∀ a o, G a = some o → a ∈ R.map Prod.fst → isMutB o = true ∧ H a = some o := fun a o e m => by
    obtain ⟨c, mc, rfl⟩ := List.mem_map.mp m
    have h1 := st.lay.has c mc
    have h2 := s _ _ h1
    rw [e] at h2
    cases h2
    exact ⟨st.lay.mt c mc, h1⟩
  have dis : ∀ a, a ∈ B.map Prod.fst → a ∉ R.map Prod.fst := fun a mb mr => by
    have h0 := sb.off a mb
    obtain ⟨c, mc, rfl⟩ := List.mem_map.mp mr
    rw [s _ _ (st.lay.has c mc)] at h0
    cases h0
  refine ⟨fun a => if a ∈ R.map Prod.fst then none else G a, fun a o e => ?_, ⟨fun a o e => ?_, ⟨?_, fun c m => ?_, fun c m => ?_⟩, fun a m => ?_⟩, fun a o e h => ?_⟩
  · show (if a ∈ R.map Prod.fst then none else G a) = _
    rw [if_neg (st.nof e)]; exact s _ _ (st.fz _ _ e)
  · have e : (if a ∈ R.map Prod.fst then none else G a) = some o := e
    split at e
    · cases e
    · exact sb.fz _ _ e
  · rw [List.map_append, List.nodup_append]
    exact ⟨sb.lay.nd, st.lay.nd, fun a ma b mb e => dis a ma (e ▸ mb)⟩
  · rcases List.mem_append.mp m with m | m
    · exact sb.lay.has c m
    · exact sb.fz _ _ (s _ _ (st.lay.has c m))
  · rcases List.mem_append.mp m with m | m
    · exact sb.lay.mt c m
    · exact st.lay.mt c m
  · show (if a ∈ R.map Prod.fst then none else G a) = _
    rw [List.map_append] at m
    split
    · rfl
    · rcases List.mem_append.mp m with m | m
      · exact sb.off a m
      · rename_i h; exact absurd m h
  · show (if a ∈ R.map Prod.fst then none else G a) = _
    rw [if_neg fun m => ?_]
    · exact e
    · obtain ⟨h1, h2⟩ := inR a o e m
      rcases h with h | h
      · rw [h1] at h; cases h
      · rw [h2] at h; cases h
end L2.A

namespace L2.A
open PySem PySem.Spec PyProof.Rows
section
variable {K : PySem.W.Frag} {σ : St} {H : Hp} {D : Ends} {Q : VK} {J : It} {G : Hp → Prop} {Y : Nat → Hp → V → Hp → Prop} {F : Hp} {L : Cells} {α : Type}
/-- a comprehension whose items follow from the things walked: acc of those behind it -/
theorem LcW.acc (xs : List α) (acc : List α → List V) (Yv : α → V → Hp → Prop) (w : Walk J xs.length G Y) (hY : ∀ i H x H', i < xs.length → Y i H x H' → Same H H' ∧ ∀ a, xs[i]? = some a → Yv a x H')
    {g : TG} {tt : TT} {te : TE} {vs : List Nat} (hz : xs.length ≤ 100000) (st : Sta F L H) (hG : ∀ F' H', Same F F' → Sta F' L H' → G H') (h0 : acc [] = [])
    (hs : ∀ (A : Addr) pre a x F' H', a ∈ xs → Same F F' → Sta F' ((A, .lst (acc pre)) :: L) H' → Yv a x H' → ∀ (yes : V → Hp → Prop) (no : Hp → Prop),
      (∀ y F'' H'', acc (pre ++ [a]) = acc pre ++ [y] → Same F' F'' → Sta F'' ((A, .lst (acc pre)) :: L) H'' → yes y H'') → (∀ F'' H'', acc (pre ++ [a]) = acc pre → Same F' F'' → Sta F'' ((A, .lst (acc pre)) :: L) H'' → no H'') →
      g x (wipe σ vs) H' fun σ2 H2 => wipe σ2 vs = wipe σ vs ∧ tt σ2 H2 fun b H3 => if b = true then te σ2 H3 yes else no H3)
    (hd : ∀ (A : Addr) F' H', Same F F' → Sta F' ((A, .lst (acc xs)) :: L) H' → Q (.ref A) H') : LcW J g tt te vs σ H Q := by
  refine LcW.sta w (fun i ys F' L' => ys = acc (xs.take i) ∧ Same F F' ∧ L' = L) hz st ⟨by rw [List.take_zero]; exact h0.symm, .refl _, rfl⟩ (fun i ys F' L' H' _ st' ⟨_, s, e⟩ => by subst e; exact hG F' H' s st') ?_ ?_
  · rintro A i x ys F' L' H1 H2 hi hl st' ⟨rfl, s, rfl⟩ y yes no hy hn
    obtain ⟨s2, ya⟩ := hY i H1 x H2 hi y
    have ea : xs[i]? = some xs[i] := List.getElem?_eq_getElem hi
    have et : xs.take (i + 1) = xs.take i ++ [xs[i]] := by rw [List.take_add_one, ea]; rfl
    refine hs A (xs.take i) xs[i] x F' H2 (List.getElem_mem hi) s (st'.same s2) (ya _ ea) yes no (fun y F'' H'' e s3 st3 => hy y F'' L' H'' st3 ⟨by rw [et, e], s.trans s3, rfl⟩) fun F'' H'' e s3 st3 => hn F'' L' H'' st3 ⟨by rw [et, e], s.trans s3, rfl⟩
  · rintro A ys F' L' H' st' _ ⟨rfl, s, rfl⟩
    rw [List.take_length] at st'
    exact hd A F' H' s st'
theorem LcW.accL {a : Addr} (xs : List α) (emb : α → V) (acc : List α → List V) {g : TG} {tt : TT} {te : TE} {vs : List Nat} (hz : xs.length ≤ 100000) (st : Sta F L H) (hG : ∀ F' H', Same F F' → Sta F' L H' → SqL K H' a (xs.map emb)) (h0 : acc [] = [])
    (hs : ∀ (A : Addr) pre x F' H', x ∈ xs → Same F F' → Sta F' ((A, .lst (acc pre)) :: L) H' → ∀ (yes : V → Hp → Prop) (no : Hp → Prop),
      (∀ y F'' H'', acc (pre ++ [x]) = acc pre ++ [y] → Same F' F'' → Sta F'' ((A, .lst (acc pre)) :: L) H'' → yes y H'') → (∀ F'' H'', acc (pre ++ [x]) = acc pre → Same F' F'' → Sta F'' ((A, .lst (acc pre)) :: L) H'' → no H'') →
      g (emb x) (wipe σ vs) H' fun σ2 H2 => wipe σ2 vs = wipe σ vs ∧ tt σ2 H2 fun b H3 => if b = true then te σ2 H3 yes else no H3)
    (hd : ∀ (A : Addr) F' H', Same F F' → Sta F' ((A, .lst (acc xs)) :: L) H' → Q (.ref A) H') : LcW (Itl K a) g tt te vs σ H Q := by
  have w : Walk (Itl K a) xs.length (fun H => SqL K H a (xs.map emb)) (YAt (xs.map emb)) := by have := walk_list (K := K) (a := a) (xs := xs.map emb); rwa [List.length_map] at this
  refine LcW.acc xs acc (fun a x _ => x = emb a) w (fun i H x H' hi y => ?_) hz st hG h0 (fun A pre b x F' H' hb s st' e yes no hy hn => ?_) hd
  · obtain ⟨rfl, y⟩ := y
    refine ⟨.refl _, fun b hb => ?_⟩
    rw [List.getElem?_map, hb] at y
    exact (Option.some.inj y).symm
  · subst e
    exact hs A pre b F' H' hb s st' yes no hy hn
theorem LcW.accT {a : Addr} (xs : List α) (emb : α → V) (acc : List α → List V) {g : TG} {tt : TT} {te : TE} {vs : List Nat} (hz : xs.length ≤ 100000) (st : Sta F L H) (hG : ∀ F' H', Same F F' → Sta F' L H' → SqT K H' a (xs.map emb)) (h0 : acc [] = [])
    (hs : ∀ (A : Addr) pre x F' H', x ∈ xs → Same F F' → Sta F' ((A, .lst (acc pre)) :: L) H' → ∀ (yes : V → Hp → Prop) (no : Hp → Prop),
      (∀ y F'' H'', acc (pre ++ [x]) = acc pre ++ [y] → Same F' F'' → Sta F'' ((A, .lst (acc pre)) :: L) H'' → yes y H'') → (∀ F'' H'', acc (pre ++ [x]) = acc pre → Same F' F'' → Sta F'' ((A, .lst (acc pre)) :: L) H'' → no H'') →
      g (emb x) (wipe σ vs) H' fun σ2 H2 => wipe σ2 vs = wipe σ vs ∧ tt σ2 H2 fun b H3 => if b = true then te σ2 H3 yes else no H3)
    (hd : ∀ (A : Addr) F' H', Same F F' → Sta F' ((A, .lst (acc xs)) :: L) H' → Q (.ref A) H') : LcW (Itt K a) g tt te vs σ H Q := by
  have w : Walk (Itt K a) xs.length (fun H => SqT K H a (xs.map emb)) (YAt (xs.map emb)) := by have := walk_tup (K := K) (a := a) (xs := xs.map emb); rwa [List.length_map] at this
  refine LcW.acc xs acc (fun a x _ => x = emb a) w (fun i H x H' hi y => ?_) hz st hG h0 (fun A pre b x F' H' hb s st' e yes no hy hn => ?_) hd
  · obtain ⟨rfl, y⟩ := y
    refine ⟨.refl _, fun b hb => ?_⟩
    rw [List.getElem?_map, hb] at y
    exact (Option.some.inj y).symm
  · subst e
    exact hs A pre b F' H' hb s st' yes no hy hn
/-- a loop: I of the things behind it -/
theorem ForW.acc (xs : List α) (Yv : α → V → Hp → Prop) (w : Walk J xs.length G Y) (hY : ∀ i H x H', i < xs.length → Y i H x H' → Same H H' ∧ ∀ a, xs[i]? = some a → Yv a x H') {g : TG} {tb : TS} (I : List α → St → Hp → Prop) (h0 : I [] σ H) (hG : ∀ pre σ H, I pre σ H → G H)
    (hs : ∀ pre a x σ H H', a ∈ xs → (∃ post, xs = pre ++ a :: post) → I pre σ H → Same H H' → Yv a x H' → g x σ H' fun σ2 H2 => tb { D with nx := I (pre ++ [a]), ct := I (pre ++ [a]), bk := D.nx } σ2 H2) (hd : ∀ σ H, I xs σ H → D.nx σ H) : ForW J g tb D σ H := by
  refine ForW.it w (fun i σ H => I (xs.take i) σ H) h0 (fun i σ H _ h => hG _ σ H h) (fun i x σ H H' hi h y => ?_) (fun σ H h => hd σ H (by rwa [List.take_length] at h))
  obtain ⟨s2, ya⟩ := hY i H x H' hi y
  have ea : xs[i]? = some xs[i] := List.getElem?_eq_getElem hi
  have et : xs.take (i + 1) = xs.take i ++ [xs[i]] := by rw [List.take_add_one, ea]; rfl
  have := hs (xs.take i) xs[i] x σ H H' (List.getElem_mem hi) ⟨xs.drop (i + 1), by rw [← List.drop_eq_getElem_cons hi, List.take_append_drop]⟩ h s2 (ya _ ea)
  rw [← et] at this
  exact this
theorem ForW.accL {a : Addr} (xs : List α) (emb : α → V) {g : TG} {tb : TS} (I : List α → St → Hp → Prop) (h0 : I [] σ H) (hG : ∀ pre σ H, I pre σ H → SqL K H a (xs.map emb))
    (hs : ∀ pre x σ H, x ∈ xs → (∃ post, xs = pre ++ x :: post) → I pre σ H → g (emb x) σ H fun σ2 H2 => tb { D with nx := I (pre ++ [x]), ct := I (pre ++ [x]), bk := D.nx } σ2 H2) (hd : ∀ σ H, I xs σ H → D.nx σ H) : ForW (Itl K a) g tb D σ H := by
  have w : Walk (Itl K a) xs.length (fun H => SqL K H a (xs.map emb)) (YAt (xs.map emb)) := by have := walk_list (K := K) (a := a) (xs := xs.map emb); rwa [List.length_map] at this
  refine ForW.it w (fun i σ H => I (xs.take i) σ H) h0 (fun i σ H _ h => hG _ σ H h) (fun i x σ H H' hi h y => ?_) (fun σ H h => hd σ H (by rwa [List.take_length] at h))
  obtain ⟨rfl, y⟩ := y
  have ea : xs[i]? = some xs[i] := List.getElem?_eq_getElem hi
  rw [List.getElem?_map, ea] at y
  cases y
  have et : xs.take (i + 1) = xs.take i ++ [xs[i]] := by rw [List.take_add_one, ea]; rfl
  have := hs (xs.take i) xs[i] σ H' (List.getElem_mem hi) ⟨xs.drop (i + 1), by rw [← List.drop_eq_getElem_cons hi, List.take_append_drop]⟩ h
  rw [← et] at this
  exact this
end
end L2.A

namespace L2.A
open PySem PySem.Spec PyProof.Rows
theorem Sta.skip2 {F : Hp} {L : Cells} {H : Hp} {x y : Addr × HO} (st : Sta F (x :: y :: L) H) : Sta F (x :: L) H := (st.perm (.swap ..)).tail
theorem walk_emb {K : PySem.W.Frag} {a : Addr} {α : Type} {xs : List α} {emb : α → V} : Walk (Itl K a) xs.length (fun H => SqL K H a (xs.map emb)) (YAt (xs.map emb)) := by
  have := walk_list (K := K) (a := a) (xs := xs.map emb)
  rwa [List.length_map] at this
theorem walk_embT {K : PySem.W.Frag} {a : Addr} {α : Type} {xs : List α} {emb : α → V} : Walk (Itt K a) xs.length (fun H => SqT K H a (xs.map emb)) (YAt (xs.map emb)) := by
  have := walk_tup (K := K) (a := a) (xs := xs.map emb)
  rwa [List.length_map] at this
end L2.A

namespace L2.A
open PySem PySem.Spec PyProof.Rows
theorem go_revS {F : Hp} {L R : Cells} {H : Hp} {l : Addr} {xs : List V} {Q : VK} (st : Sta F L H) (p : L.Perm ((l, .lst xs) :: R)) (h : ∀ H', Sta F ((l, .lst xs.reverse) :: R) H' → Q .non H') : rReverse (.ref l) [] H Q :=
  ⟨l, xs, rfl, rfl, (st.perm p).get (.head _), h _ (st.put p rfl)⟩
end L2.A

namespace L2.A
/-- a block behind others -/
theorem pm_app2 {B R : Cells} : (R ++ B).Perm (B ++ R) := List.perm_append_comm
end L2.A

namespace L2.A
open PySem PySem.Spec PyProof.Rows
theorem All2.cut {α β : Type} {R : α → β → Prop} : ∀ {as : List α} {bs : List β} (m k : Nat), All2 R as bs → All2 R ((as.drop m).take k) ((bs.drop m).take k) := by
  have tk : ∀ {as : List α} {bs : List β} (k : Nat), All2 R as bs → All2 R (as.take k) (bs.take k) := by
    intro as bs k h
    induction h generalizing k with
    | nil => simp only [List.take_nil]; exact .nil
    | cons x _ ih =>
      cases k with
      | zero => exact .nil
      | succ k => exact .cons x (ih k)
  intro as bs m k h
  induction h generalizing m with
  | nil => simp only [List.drop_nil, List.take_nil]; exact .nil
  | cons x y ih =>
    cases m with
    | zero => exact tk k (.cons x y)
    | succ m => exact ih m
theorem All2.append {α β : Type} {R : α → β → Prop} {cs : List α} {ds : List β} : ∀ {as : List α} {bs : List β}, All2 R as bs → All2 R cs ds → All2 R (as ++ cs) (bs ++ ds)
  | _, _, .nil, y => y
  | _, _, .cons x z, y => .cons x (All2.append z y)
theorem All2.atI {R : V → α → Prop} : ∀ {as : List V} {bs : List α} {j : Int}, All2 R as bs → -(as.length : Int) ≤ j → j < as.length → ∃ a b, L2.atI as j = some a ∧ b ∈ bs ∧ R a b := by
  intro as bs j h h0 h1
  obtain ⟨n, hn, e⟩ : ∃ n, n < as.length ∧ ixN as.length j = some n := by
    by_cases c : 0 ≤ j
    · exact ⟨j.toNat, by omega, by unfold ixN; rw [if_pos c, if_pos h1]⟩
    · refine ⟨(j + as.length).toNat, by omega, ?_⟩
      unfold ixN
      rw [if_neg (by omega), if_pos (by omega)]
  obtain ⟨b, eb, r⟩ := h.at (List.getElem?_eq_getElem hn)
  refine ⟨_, b, ?_, List.mem_of_getElem? eb, r⟩
  unfold L2.atI
  rw [e]
  exact List.getElem?_eq_getElem hn
end L2.A

namespace L2.A
open PySem PySem.Spec PyProof.Rows
/-- a tuple that is laid stands still -/
theorem Sta.tupF {F : Hp} {L : Cells} {H : Hp} {t : Addr} {xs : List V} (st : Sta F L H) (e : H t = some (.tup xs)) : ∃ F', Same F F' ∧ F' t = some (.tup xs) ∧ Sta F' L H := by
  have nL := st.lay.tup e
  refine ⟨upd F t (.tup xs), fun a o q => ?_, upd_same, fun b u q => ?_, st.lay, fun b m => ?_⟩
  · by_cases z : a = t
    · subst z
      have := st.fz _ _ q
      rw [e] at this
      cases this
      exact upd_same
    · rw [upd_ne z]; exact q
  · by_cases z : b = t
    · subst z; rw [upd_same] at q; cases q; exact e
    · rw [upd_ne z] at q; exact st.fz _ _ q
  · rw [upd_ne (fun z => nL (by rw [← z]; exact m))]; exact st.off b m
end L2.A

namespace L2.A
open PySem PySem.Spec PyProof.Rows
section
variable {α : Type} {x y z w : α} {xs : List α}
theorem at0 : L2.atI (x :: xs) 0 = some x := by
  have h : ixN (x :: xs).length 0 = some 0 := by unfold ixN; rw [if_pos (by decide), if_pos (by rw [List.length_cons]; omega)]; rfl
  unfold L2.atI; rw [h]; rfl
theorem at1 : L2.atI (x :: y :: xs) 1 = some y := by
  have h : ixN (x :: y :: xs).length 1 = some 1 := by unfold ixN; rw [if_pos (by decide), if_pos (by rw [List.length_cons, List.length_cons]; omega)]; rfl
  unfold L2.atI; rw [h]; rfl
theorem at2 : L2.atI (x :: y :: z :: xs) 2 = some z := by
  have h : ixN (x :: y :: z :: xs).length 2 = some 2 := by unfold ixN; rw [if_pos (by decide), if_pos (by rw [List.length_cons, List.length_cons, List.length_cons]; omega)]; rfl
  unfold L2.atI; rw [h]; rfl
theorem at3 : L2.atI (x :: y :: z :: w :: xs) 3 = some w := by
  have h : ixN (x :: y :: z :: w :: xs).length 3 = some 3 := by unfold ixN; rw [if_pos (by decide), if_pos (by rw [List.length_cons, List.length_cons, List.length_cons, List.length_cons]; omega)]; rfl
  unfold L2.atI; rw [h]; rfl
end
end L2.A

namespace L2.A
theorem nd_true {p : Prop} [Decidable p] (h : (!decide p) = false) : p := by simpa using h
theorem nd_false {p : Prop} [Decidable p] (h : (!decide p) = true) : ¬ p := by simpa using h
end L2.A

namespace L2.A
open PySem PySem.Spec PyProof.Rows
section
variable {F : Hp} {L R : Cells} {H : Hp} {l : Addr} {xs : List V} {y : V} {Q : VK}
theorem go_insS {i : Int} (st : Sta F L H) (p : L.Perm ((l, .lst xs) :: R)) (z : xs.length < 100000) (h0 : 0 ≤ i ∧ i < 100000) (h : ∀ H', Sta F ((l, .lst (xs.take i.toNat ++ [y] ++ xs.drop i.toNat)) :: R) H' → Q .non H') :
    ∃ (l' : Addr) (xs' : List V) (i' : Int) (y' : V), V.ref l = .ref l' ∧ [V.int i, y] = [.int i', y'] ∧ H l' = some (.lst xs') ∧ xs'.length < sizeLine ∧ 0 ≤ i' ∧ i' < 2 ^ 63 ∧ Q .non (upd H l' (.lst (xs'.take i'.toNat ++ [y'] ++ xs'.drop i'.toNat))) :=
  go_ins ((st.perm p).get (.head _)) z h0 (h _ (st.put p rfl))
theorem go_popS {k : Nat} (st : Sta F L H) (p : L.Perm ((l, .lst xs) :: R)) (hk : k < xs.length) (hs : k < 100000) (h : ∀ H', Sta F ((l, .lst (xs.eraseIdx k)) :: R) H' → Q xs[k] H') : rPopAt (.ref l) [.int (k : Int)] H Q :=
  ⟨l, xs, (k : Int), k, xs[k], rfl, rfl, (st.perm p).get (.head _), by omega, by omega, by unfold seqIndex?; simp; omega, List.getElem?_eq_getElem hk, h _ (st.put p rfl)⟩
/-- a dict that is written -/
theorem Sta.disp {o : HO} {p : Addr} {o' : HO} (st : Sta F L H) (n : H p = none) : ∃ F', Same F F' ∧ F' p = some o ∧ Sta F' L (upd (upd H p o') p o) := by
  rw [upd_upd]
  exact st.newF n (same_new n) upd_same
end
end L2.A

namespace L2.A
theorem All2.set {α β : Type} {R : α → β → Prop} {a : α} {b : β} : ∀ {as : List α} {bs : List β} {k : Nat}, All2 R as bs → R a b → All2 R (as.set k a) (bs.set k b)
  | _, _, _, .nil, _ => .nil
  | _, _, 0, .cons _ y, h => .cons h y
  | _, _, _ + 1, .cons x y, h => .cons x (y.set h)
end L2.A

namespace L2.A
open PySem PySem.Spec PyProof.Rows
theorem relabel_vis {sc : Scope} {env : Env} {x : Str} (h : sc.names.lookup x = some .cell ∨ sc.names.lookup x = some .free) : (relabel sc env).names.lookup x = some .cell ∨ (relabel sc env).names.lookup x = some .free := by
  show (sc.names.map fun (n, k) => if (k == NameKind.free && env.scope.kind == .function && env.kindOf n == some .cell) then (n, NameKind.cell) else (n, k)).lookup x = _ ∨ (sc.names.map fun (n, k) => if (k == NameKind.free && env.scope.kind == .function && env.kindOf n == some .cell) then (n, NameKind.cell) else (n, k)).lookup x = _
  generalize sc.names = l at h ⊢
  induction l with
  | nil => rcases h with h | h <;> cases h
  | cons p r ih =>
    obtain ⟨n, k⟩ := p
    rw [List.map_cons]
    cases hx : x == n with
    | true =>
      simp only [List.lookup_cons, hx] at h
      by_cases hc : (k == NameKind.free && env.scope.kind == .function && env.kindOf n == some .cell) = true
      · simp [hc, List.lookup_cons, hx]
      · simp only [if_neg hc, List.lookup_cons, hx]; exact h
    | false =>
      simp only [List.lookup_cons, hx] at h
      by_cases hc : (k == NameKind.free && env.scope.kind == .function && env.kindOf n == some .cell) = true
      · simp only [hc, if_true, List.lookup_cons, hx]; exact ih h
      · simp only [if_neg hc, List.lookup_cons, hx]; exact ih h
/-- a comprehension within another's element -/
theorem blkOk_in {N : List Str} {sc scope : Scope} {own : List (Str × Nat)} {cl : List (Str × Addr)} {C : Addr} {env : Env} (h : blkC N sc scope own = true) : BlkOk N (compEnvC sc cl C env).scope scope own :=
  have B := blkOk_by h
  ⟨B.kind, B.uniq, B.ix, fun y m e => relabel_vis (B.free y m e), B.own⟩
end L2.A


namespace L2.A
open PySem PySem.Spec PyProof.Rows
/-! ### l.count(x) of flat items -/
section
variable {X : Cx} {K : PySem.W.Frag}
def rCntF (K : PySem.W.Frag) : V → List V → Hp → VK → Prop := fun x xs H Q => ∃ (a : Addr) (ys : List V) (y : V), x = V.ref a ∧ xs = [y] ∧ SqL K H a ys ∧ flatV y = true ∧ ys.all flatV = true ∧ Q (.int (ys.countP fun z => eqV z y : Nat)) H
theorem countP_eqU {y : V} {u : Value} (ry : RelV y u) : ∀ {ys : List V} {us : List Value}, Vals ys us → ys.all flatV = true → us.countP (eqU y) = ys.countP fun z => eqV z y
  | _, _, .nil, _ => rfl
  | _, _, .cons r1 r2, h => by
    rw [List.all_cons, Bool.and_eq_true] at h
    rw [List.countP_cons, List.countP_cons, countP_eqU ry r2 h.2, eqU_of r1 h.1]
theorem mt_cntF : MtR X "list.count" (rCntF X.K) := by
  intro pins s σ H x xs v us Q I rx rxs h
  obtain ⟨a, ys, y, rfl, rfl, hs, fy, fys, q⟩ := h
  cases rx
  cases rxs with
  | cons ry rt =>
    rename_i uy ut
    cases rt
    obtain ⟨its, rv, ⟨⟨cls, dd, data, sl⟩, n, ho, hc, hdn, hd⟩, hlen⟩ := I.list hs
    simp only at hc hd
    subst hc hd
    refine call_meets PySem.F.slot_list_count ⟨_, ho, rfl⟩ PySem.F.entry_list_count (PySem.F.args_list_count_2 _ _)
      (SeqAt.list_countAt a its.toArray n dd sl uy (eqU y)) ⟨ho, fun u' hu' => mem_eqAt ry fy rv fys u' (by simpa using hu'), ?_⟩
    refine ⟨.int (ys.countP fun z => eqV z y : Nat), H, I.tok _, ⟨s.toks, ?_⟩, q⟩
    show Value.int ((its.toArray.toList.countP (eqU y) : Nat) : Int) s.toks = _
    rw [show its.toArray.toList = its from rfl, countP_eqU ry rv fys]
theorem mt_cntK (hK : X.K = K) : MtR X "list.count" (rCntF K) := hK ▸ mt_cntF
variable {H : Hp} {Q : VK}
theorem go_cnt {a : Addr} {ys : List V} {y : V} (hs : SqL K H a ys) (fy : flatV y = true) (f : ys.all flatV = true) (h : Q (.int (ys.countP fun z => eqV z y : Nat)) H) : rCntF K (.ref a) [y] H Q := ⟨a, ys, y, rfl, rfl, hs, fy, f, h⟩
theorem go_index {a : Addr} {ys : List V} {y z : V} {j : Nat} (hs : SqL K H a ys) (fy : flatV y = true) (f : ys.all flatV = true) (e : ys[j]? = some z) (t : eqV z y = true) (n : ∀ (m : Nat) (z' : V), m < j → ys[m]? = some z' → eqV z' y = false) (h : Q (.int (j : Nat)) H) : rIndex K (.ref a) [y] H Q :=
  ⟨a, ys, y, j, z, rfl, rfl, hs, fy, f, e, t, n, h⟩
end
end L2.A

namespace L2.Toy
open PySem PySem.Spec PyProof.Rows L2.A
local macro_rules | `(tactic| walk_at "put") => `(tactic| first | exact rfl)
local macro_rules | `(tactic| walk_at "sqT") => `(tactic| first | assumption | exact .of upd_same | exact .of (by assumption) | exact seqT_same (by assumption) (by walk_at "same") | exact .of (ge2 (by assumption) (by walk_at "same")))
local macro_rules | `(tactic| walk_at "sqL") => `(tactic| first | assumption | exact .of upd_same | exact .of (by assumption) | exact seqL_same (by assumption) (by walk_at "same") | exact .of (ge2 (by assumption) (by walk_at "same")))
local macro_rules | `(tactic| walk_at "obj") => `(tactic| first | exact upd_same | assumption | exact ge2 (by assumption) (by walk_at "same"))
local macro_rules | `(tactic| walk_at "ty") => `(tactic| first | exact tyV_s | exact tyV_l (by walk_at "sqL") | exact tyV_d (by walk_at "obj") | exact tyV_dT (by walk_at "obj"))
local macro_rules | `(tactic| walk_at "1") => `(tactic| first
  | with_reducible refine go_seq ?_
  | with_reducible refine go_nx ?_
  | with_reducible refine go_asg ?_
  | with_reducible refine go_op ?_
  | ((with_reducible refine' go_var ?e ?_); (case e => exact rfl))
  | ((with_reducible refine' go_name ?e ?_); (case e => (simp only [List.set_cons_zero, List.set_cons_succ]; rfl)))
  | with_reducible refine go_c ?_
  | with_reducible refine go_I0 ?_
  | with_reducible refine go_addI ?_
  | ((with_reducible refine go_mulI ?e ?_); (case e => (show CMul _ _; unfold CMul; omega)))
  | ((with_reducible refine go_I ?e ?_); (case e => (first | omega | (show CDiv _ _; unfold CDiv; omega) | (show (0 : Int) < _; omega))))
  | with_reducible refine go_if ?_
  | with_reducible refine go_test ?_
  | with_reducible refine go_bl ?_
  | ((with_reducible refine go_eqS ?e ?_); (case e => exact rfl))
  | ((with_reducible refine go_neS ?e ?_); (case e => exact rfl))
  | with_reducible refine go_isN ?_
  | with_reducible refine go_notN ?_
  | with_reducible refine go_isB ?_
  | with_reducible refine go_notB ?_
  | with_reducible refine go_ret ?_
  | with_reducible refine go_rt ?_
  | with_reducible refine go_retN ?_
  | with_reducible refine go_cons ?_
  | with_reducible refine go_nil ?_
  | with_reducible refine go_call ?_
  | with_reducible refine go_CB ?_
  | with_reducible refine go_tup ?_
  | with_reducible refine go_lst ?_
  | with_reducible refine go_newT rfl ?_
  | with_reducible refine go_newL rfl ?_
  | with_reducible refine go_not ?_
  | ((with_reducible refine' go_andP ?a ?b ?_); (case a => (intro QB' hQ; (walk_at "*"); exact hQ)); (case b => (intro QB' hQ; (walk_at "*"); exact hQ)))
  | ((with_reducible refine' go_orP ?a ?b ?_); (case a => (intro QB' hQ; (walk_at "*"); exact hQ)); (case b => (intro QB' hQ; (walk_at "*"); exact hQ)))
  | ((with_reducible refine' go_andVP ?a ?b ?_); (case a => (intro QB' hQ; (walk_at "*"); exact hQ)); (case b => (intro QB' hQ; (walk_at "*"); exact hQ)))
  | ((with_reducible refine' go_orVP ?a ?b ?_); (case a => (intro QB' hQ; (walk_at "*"); exact hQ)); (case b => (intro QB' hQ; (walk_at "*"); exact hQ)))
  | ((with_reducible refine' go_ifxP ?a ?b ?c ?_); (case a => (intro QB' hQ; (walk_at "*"); exact hQ)); (case b => (intro QB' hQ; (walk_at "*"); exact hQ)); (case c => (intro QB' hQ; (walk_at "*"); exact hQ)))
  | with_reducible refine go_and ?_
  | with_reducible refine go_or ?_
  | with_reducible refine go_andV ?_
  | with_reducible refine go_orV ?_
  | with_reducible refine go_notV ?_
  | with_reducible refine go_tru ?_
  | with_reducible refine go_truB ?_
  | with_reducible refine go_truI ?_
  | with_reducible refine go_chain ?_
  | with_reducible refine go_ifx ?_
  | with_reducible refine go_drop ?_
  | with_reducible refine go_un ?_
  | with_reducible refine go_U ?_
  | with_reducible refine go_gcons ?_
  | with_reducible refine go_gnil ?_
  | with_reducible refine go_sub ?_
  | with_reducible refine go_intI ?_
  | with_reducible refine go_intB ?_
  | ((with_reducible refine' go_xT ?a ?b ?_); (case a => walk_at "sqT"); (case b => first | exact rfl | exact at0 | exact at1 | exact at2 | exact at3 | fail))
  | ((with_reducible refine' go_xL ?a ?b ?_); (case a => walk_at "sqL"); (case b => first | exact rfl | exact at0 | exact at1 | exact at2 | exact at3 | fail))
  | ((with_reducible refine' go_gtup ?a ?b ?_); (case a => walk_at "sqT"); (case b => exact rfl))
  | ((with_reducible refine' go_gtupT ?a ?b ?_); (case a => walk_at "sqT"); (case b => exact rfl))
  | ((with_reducible refine' go_gtupL ?a ?b ?_); (case a => walk_at "sqL"); (case b => exact rfl))
  | with_reducible refine go_sl ?_
  | with_reducible refine go_nopart ?_
  | with_reducible refine go_part ?_
  | with_reducible refine go_partI ?_
  | ((with_reducible refine' go_slT ?a ?b ?c ?_); (case a => walk_at "sqT"); (case b => exact rfl); (case c => exact rfl))
  | with_reducible refine go_min3 ?_
  | with_reducible refine go_max3 ?_
  | with_reducible refine go_disp ?_
  | with_reducible refine go_pairs ?_
  | with_reducible refine go_pairs0 ?_
  | ((with_reducible refine' go_dispK ?a ?b ?c ?_); (case a => first | exact upd_same | assumption); (case b => exact rfl); (case c => exact rfl))
  | with_reducible refine go_next ?_
  | with_reducible refine go_for ?_
  | with_reducible refine go_lc ?_
  | with_reducible refine go_iX ?_
  | with_reducible refine go_rng1 ?_
  | with_reducible refine go_rng2 ?_
  | ((with_reducible refine go_rn1 ?e ?_); (case e => omega))
  | ((with_reducible refine go_rn2 ?e ?_); (case e => omega))
  | with_reducible refine go_yes ?_
  | with_reducible refine go_max ?_
  | with_reducible refine go_min ?_
  | with_reducible refine go_abs ?_
  | ((with_reducible refine' go_isi ?e ?f ?_); (case e => first | exact .base (.int _) | exact .base (.bl _) | exact .base (.str _) | exact .base .non | exact .base (.tup (by assumption)) | exact .base (.lst (by assumption)) | exact .base (.tup (ge2 (by assumption) (by walk_at "same"))) | exact .base (.lst (ge2 (by assumption) (by walk_at "same"))) | ((refine' TyX.base (.lst ?a)); (case a => walk_at "obj")) | ((refine' TyX.base (.tup ?a)); (case a => walk_at "obj")) | fail); (case f => first | exact kit_ii | exact kit_ib | exact kit_bb | exact kit_bi | exact kit_ss | exact kit_nb | exact kit_ni | exact kit_ns | exact kit_nt | exact kit_is | exact kit_si | exact kit_sb | exact kit_bs | exact kit_tt | exact kit_ll | exact kit_tl | exact kit_lt | exact kit_nl | exact kit_il | exact kit_it | exact kit_sl | exact kit_st))
  | ((with_reducible refine' go_lenS ?a ?_); (case a => exact szl (by omega)))
  | ((with_reducible refine' go_lenT ?a ?_); (case a => walk_at "sqT"))
  | ((with_reducible refine' go_lenL ?a ?_); (case a => walk_at "sqL"))
  | with_reducible refine go_fld ?_
  | ((with_reducible refine' go_fldW ?a ?b ?c ?d ?_); (case a => walk_at "obj"); (case b => assumption); (case c => assumption); (case d => exact rfl))
  | with_reducible refine go_sfld ?_
  | ((with_reducible refine' go_sfldW ?a ?b ?c ?d ?e ?_); (case a => walk_at "obj"); (case b => assumption); (case c => assumption); (case d => exact rfl); (case e => walk_at "put"))
  | with_reducible refine go_dget2 ?_
  | with_reducible refine go_dnewK ?_
  | with_reducible refine go_gfld ?_
  | ((with_reducible refine' go_gfldW ?a ?b ?c ?d ?e ?_); (case a => walk_at "obj"); (case b => assumption); (case c => assumption); (case d => exact rfl); (case e => walk_at "put"))
  | with_reducible refine go_faug ?_
  | ((with_reducible refine' go_faugW ?a ?b ?c ?d ?_); (case a => walk_at "obj"); (case b => assumption); (case c => assumption); (case d => exact rfl))
  | ((with_reducible refine' go_astW ?a ?b ?e ?_); (case a => walk_at "obj"); (case b => exact rfl); (case e => walk_at "put"))
  | with_reducible refine go_rAdd ?_
  | with_reducible refine go_rSub ?_
  | with_reducible refine go_meth ?_
  | ((with_reducible refine' go_methW ?a ?b ?_); (case a => walk_at "obj"); (case b => exact rfl))
  | with_reducible refine go_make ?_
  | with_reducible refine go_callS ?_
  | with_reducible refine go_methS ?_
  | ((with_reducible refine' go_methSW ?a ?b ?_); (case a => walk_at "obj"); (case b => exact rfl))
  | with_reducible refine go_veI ?_
  | with_reducible refine go_ost ?_
  | with_reducible refine go_mkO ?_
  | with_reducible refine go_exv ?_
  | with_reducible refine go_xq ?_
  | ((with_reducible refine' go_xqW ?a ?b ?c ?d ?e ?_); (case a => walk_at "obj"); (case b => exact ExcD.xf (by assumption)); (case c => assumption); (case d => walk_at "obj"); (case e => exact rfl))
  | ((with_reducible refine' go_isQ ?a ?b ?c ?d ?e ?_); (case a => walk_at "obj"); (case b => assumption); (case c => walk_at "obj"); (case d => first | exact .ty _ | exact .own _); (case e => assumption))
  | ((with_reducible refine' go_isQT ?a ?b ?c ?d ?e ?f ?_); (case a => walk_at "obj"); (case b => assumption); (case c => walk_at "obj"); (case d => first | exact upd_same | (walk_at "obj")); (case e => (repeat (first | exact .nil | refine .cons (.own _) ?_ | refine .cons (.ty _) ?_))); (case f => (simp only [PySem.W.kitAny, *])))
  | with_reducible refine go_isY ?_
  | with_reducible refine go_revR ?_
  | with_reducible refine go_rg1 ?_
  | with_reducible refine go_rg1b ?_
  | ((with_reducible refine go_rvR ?e ?_); (case e => omega))
  | with_reducible refine go_enum ?_
  | with_reducible refine go_enumS ?_
  | with_reducible refine go_enumX ?_
  | with_reducible refine go_zipA ?_
  | with_reducible refine go_zip ?_
  | ((with_reducible refine' go_aug ?e ?_); (case e => exact rfl))
  | with_reducible refine go_ipI ?_
  | with_reducible refine go_ipA ?_
  | with_reducible refine go_par ?_
  | with_reducible refine go_par3 ?_
  | ((with_reducible refine' go_p3 ?e ?_); (case e => (simp only [List.set_cons_zero, List.set_cons_succ]; rfl)))
  | ((with_reducible refine' go_p2 ?e ?_); (case e => (simp only [List.set_cons_zero, List.set_cons_succ]; rfl)))
  | with_reducible refine go_bm ?_
  | with_reducible refine go_bm0 ?_
  | ((with_reducible refine' go_bmW ?a ?_); (case a => walk_at "ty"))
  | ((with_reducible refine' go_bmW0 ?a ?_); (case a => walk_at "ty"))
  | ((with_reducible refine' go_append ?a ?b ?_); (case a => walk_at "obj"); (case b => first | exact Nat.lt_of_succ_le (Nat.le_of_ble_eq_true rfl) | omega | (simp only [List.length_append, List.length_cons, List.length_nil, List.length_map]; omega)))
  | with_reducible refine go_brk ?_
  | with_reducible refine go_ct ?_
  | with_reducible refine go_bk ?_
  | with_reducible refine go_ctx ?_
  | (with_reducible refine iteT ?_)
  | (with_reducible refine iteNT ?_)
  | (with_reducible refine iteNF ?_)
  | (with_reducible refine iteF ?_)
  | ((with_reducible refine' and_join ?b ?_); (case b => (intro QB' hQ; (walk_at "*"); exact hQ)))
  | ((with_reducible refine' or_join ?b ?_); (case b => (intro QB' hQ; (walk_at "*"); exact hQ)))
  | ((with_reducible refine' andV_join ?b ?_); (case b => (intro QB' hQ; (walk_at "*"); exact hQ)))
  | ((with_reducible refine' orV_join ?b ?_); (case b => (intro QB' hQ; (walk_at "*"); exact hQ)))
  | fail)
local macro_rules | `(tactic| walk_at "*") => `(tactic| ((try dsimp only); (repeat walk_at "1")))
local macro_rules | `(tactic| walk_at "same") => `(tactic| first
  | exact Same.refl _
  | assumption
  | ((refine same_new2 ?_ ?h); (case h => assumption); (walk_at "same"))
  | ((refine same_mut ?_ ?h); (case h => assumption); (walk_at "same"))
  | ((refine same_mut ?_ ?h); (case h => exact Same.free (by walk_at "same") (by assumption)); (walk_at "same"))
  | ((refine' Same.trans ?_ ?h); (case h => assumption); (walk_at "same"))
  | fail)
local macro_rules | `(tactic| walk_at "all") => `(tactic| ((walk_at "*"); first
  | ((refine if2 (fun c => ?_) (fun c => ?_)) <;> (walk_at "all"))
  | ((with_reducible refine go_inT (.of upd_same) rfl rfl ?_); (walk_at "all"))
  | ((with_reducible refine go_ninT (.of upd_same) rfl rfl ?_); (walk_at "all"))
  | ((with_reducible show NewO _ _ _); (intro p hp); (walk_at "all"))
  | skip))

local macro_rules | `(tactic| walk_at "**") => `(tactic| ((try dsimp only); (repeat first
  | walk_at "1"
  | ((with_reducible show NewO _ _ _); (intro p hp))
  | (with_reducible refine go_inT (.of upd_same) rfl rfl ?_)
  | (with_reducible refine go_ninT (.of upd_same) rfl rfl ?_)
  | (with_reducible refine go_inL (.of upd_same) rfl rfl ?_)
  | (with_reducible refine go_ninL (.of upd_same) rfl rfl ?_))))
/-! by cells -/
local macro_rules | `(tactic| walk_at "mem") => `(tactic| first
  | with_reducible exact List.mem_cons_self
  | ((with_reducible refine' List.mem_append_left _ ?h); (case h => walk_at "mem"))
  | ((with_reducible refine' List.mem_cons_of_mem _ ?h); (case h => walk_at "mem"))
  | ((with_reducible refine' List.mem_append_right _ ?h); (case h => walk_at "mem"))
  | fail)
local macro_rules | `(tactic| walk_at "perm") => `(tactic| first
  | with_reducible exact pc_here
  | ((with_reducible refine' pc_inl ?h); (case h => walk_at "perm"))
  | ((with_reducible refine' pc_cons ?h); (case h => walk_at "perm"))
  | ((with_reducible refine' pc_app ?h); (case h => walk_at "perm"))
  | fail)
local macro_rules | `(tactic| walk_at "pull") => `(tactic| first
  | with_reducible exact pm_here
  | with_reducible exact pm_all
  | with_reducible exact pl_nil
  | ((with_reducible refine' pm_app ?h); (case h => walk_at "pull1"))
  | ((with_reducible refine' pm_cons ?h); (case h => walk_at "pull1"))
  | ((with_reducible refine' pl_app ?h1 ?h2); (case h1 => walk_at "pull"); (case h2 => walk_at "pull"))
  | ((with_reducible refine' pl_cons ?h1 ?h2); (case h1 => walk_at "perm"); (case h2 => walk_at "pull"))
  | fail)
local macro_rules | `(tactic| walk_at "pull1") => `(tactic| first
  | with_reducible exact pm_here
  | with_reducible exact pm_all
  | ((with_reducible refine' pm_app ?h); (case h => walk_at "pull1"))
  | ((with_reducible refine' pm_cons ?h); (case h => walk_at "pull1"))
  | fail)
local macro_rules | `(tactic| walk_at "lay") => `(tactic| first
  | assumption
  | exact Ext.lay (by assumption)
  | exact Lay.pull (Ext.lay (by assumption)) (by walk_at "pull"))
local macro_rules | `(tactic| walk_at "tup") => `(tactic| first
  | assumption
  | exact TupKeep.at (by assumption) (by walk_at "tup")
  | exact Ext.tup (by assumption) (by walk_at "tup")
  | exact ge_same (by assumption) (by walk_at "tup")
  | fail)
local macro_rules | `(tactic| walk_at "objx") => `(tactic| first
  | exact Lay.get (Ext.lay (by assumption)) (by walk_at "mem")
  | exact Lay.get (by assumption) (by walk_at "mem")
  | (walk_at "tup"))
local macro_rules | `(tactic| walk_at "permd") => `(tactic| first
  | exact pc_here
  | ((refine' pc_inl ?h); (case h => walk_at "permd"))
  | ((refine' pc_cons ?h); (case h => walk_at "permd"))
  | ((refine' pc_app ?h); (case h => walk_at "permd"))
  | fail)
local macro_rules | `(tactic| walk_at "pulld") => `(tactic| first
  | with_reducible exact pm_here
  | with_reducible exact pm_all
  | with_reducible exact pl_nil
  | ((with_reducible refine' pm_app ?h); (case h => walk_at "pull1"))
  | ((with_reducible refine' pm_cons ?h); (case h => walk_at "pull1"))
  | ((refine' pl_app ?h1 ?h2); (case h1 => walk_at "pulld"); (case h2 => walk_at "pulld"))
  | ((refine' pl_cons ?h1 ?h2); (case h1 => walk_at "permd"); (case h2 => walk_at "pulld"))
  | fail)
local macro_rules | `(tactic| walk_at "ext") => `(tactic| first
  | assumption
  | exact Ext.drop (by assumption) (by walk_at "pull")
  | exact Ext.drop (by assumption) (by walk_at "pulld"))
local macro_rules | `(tactic| walk_at "samex") => `(tactic| first
  | assumption
  | exact Ext.toSame' (by assumption) (by walk_at "pull"))
local macro_rules | `(tactic| walk_at "small") => `(tactic| first | exact Nat.lt_of_succ_le (Nat.le_of_ble_eq_true rfl) | omega | (simp only [List.length_append, List.length_cons, List.length_nil, List.length_map]; omega))
local macro_rules | `(tactic| walk_at "x1") => `(tactic| first
  | ((with_reducible refine' go_fldW ?a ?b ?c ?d ?_); (case a => walk_at "objx"); (case b => assumption); (case c => assumption); (case d => exact rfl))
  | ((with_reducible refine' go_xT ?a ?b ?_); (case a => exact .of (by walk_at "tup")); (case b => exact rfl))
  | ((with_reducible refine' go_xL ?a ?b ?_); (case a => exact .of (by walk_at "objx")); (case b => exact rfl))
  | ((with_reducible refine' go_gtup ?a ?b ?_); (case a => exact .of (by walk_at "tup")); (case b => exact rfl))
  | ((with_reducible refine' go_slTD 0 ?a ?b ?c ?_); (case a => exact .of (by walk_at "tup")); (case b => rfl); (case c => (repeat (first | exact DropR.zero | apply DropR.succ))))
  | ((with_reducible refine' go_slTD 2 ?a ?b ?c ?_); (case a => exact .of (by walk_at "tup")); (case b => rfl); (case c => (repeat (first | exact DropR.zero | apply DropR.succ))))
  | ((with_reducible refine' go_slTD 3 ?a ?b ?c ?_); (case a => exact .of (by walk_at "tup")); (case b => rfl); (case c => (repeat (first | exact DropR.zero | apply DropR.succ))))
  | ((with_reducible refine' go_slTD 5 ?a ?b ?c ?_); (case a => exact .of (by walk_at "tup")); (case b => rfl); (case c => (repeat (first | exact DropR.zero | apply DropR.succ))))
  | ((with_reducible refine' go_slTT 3 ?a ?b ?c ?d ?_); (case a => exact .of (by walk_at "tup")); (case b => rfl); (case c => (repeat (first | exact TakeR.zero | apply TakeR.succ))); (case d => rfl))
  | ((with_reducible refine' go_slTT 4 ?a ?b ?c ?d ?_); (case a => exact .of (by walk_at "tup")); (case b => rfl); (case c => (repeat (first | exact TakeR.zero | apply TakeR.succ))); (case d => rfl))
  | ((with_reducible refine' go_slTM 0 2 ?a ?b ?c ?d ?e ?_); (case a => exact .of (by walk_at "tup")); (case b => rfl); (case c => rfl); (case d => (repeat (first | exact DropR.zero | apply DropR.succ))); (case e => (repeat (first | exact TakeR.zero | apply TakeR.succ))))
  | ((with_reducible refine' go_slTM 0 4 ?a ?b ?c ?d ?e ?_); (case a => exact .of (by walk_at "tup")); (case b => rfl); (case c => rfl); (case d => (repeat (first | exact DropR.zero | apply DropR.succ))); (case e => (repeat (first | exact TakeR.zero | apply TakeR.succ))))
  | ((with_reducible refine' go_sfldX ?a ?p ?b ?c ?d ?e ?_); (case a => assumption); (case p => walk_at "perm"); (case b => assumption); (case c => assumption); (case d => exact rfl); (case e => walk_at "put"); intro H' x' tk')
  | ((with_reducible refine' go_gfldX ?a ?p ?b ?c ?d ?e ?_); (case a => assumption); (case p => walk_at "perm"); (case b => assumption); (case c => assumption); (case d => exact rfl); (case e => walk_at "put"); intro H' x' tk')
  | ((with_reducible refine' go_faugW ?a ?b ?c ?d ?_); (case a => walk_at "objx"); (case b => assumption); (case c => assumption); (case d => exact rfl))
  | ((with_reducible refine' go_astX ?a ?p ?b ?e ?_); (case a => assumption); (case p => walk_at "perm"); (case b => exact rfl); (case e => walk_at "put"); intro H' x' tk')
  | ((with_reducible refine' go_methW ?a ?b ?_); (case a => walk_at "objx"); (case b => exact rfl))
  | ((with_reducible refine' go_methSW ?a ?b ?_); (case a => walk_at "objx"); (case b => exact rfl))
  | ((with_reducible refine' go_inS ?a ?_); (case a => walk_at "objx"))
  | ((with_reducible refine' go_inC ?a ?_); (case a => walk_at "objx"))
  | ((with_reducible refine' go_inT ?a ?b ?c ?_); (case a => exact .of (by walk_at "tup")); (case b => exact rfl); (case c => exact rfl))
  | ((with_reducible refine' go_ninT ?a ?b ?c ?_); (case a => exact .of (by walk_at "tup")); (case b => exact rfl); (case c => exact rfl))
  | ((with_reducible refine' go_lenL ?a ?_); (case a => exact .of (by walk_at "objx")))
  | ((with_reducible refine' go_lenT ?a ?_); (case a => exact .of (by walk_at "tup")))
  | ((with_reducible refine' go_dg2W ?a ?_); (case a => exact .inl ⟨_, .inl (by walk_at "objx")⟩))
  | ((with_reducible refine' go_getC ?a ?_); (case a => walk_at "objx"))
  | ((with_reducible refine' go_bmW ?a ?_); (case a => first | exact tyV_s | exact tyV_l (.of (by walk_at "objx")) | exact tyV_d (by walk_at "objx")))
  | ((with_reducible refine' go_bmW0 ?a ?_); (case a => first | exact tyV_s | exact tyV_l (.of (by walk_at "objx")) | exact tyV_d (by walk_at "objx")))
  | ((with_reducible refine' go_appendX ?a ?p ?b ?_); (case a => assumption); (case p => walk_at "perm"); (case b => walk_at "small"); intro H' x' tk')
  | ((with_reducible refine' go_newTp ?a ?_); (case a => assumption); intro p' H' n' x' tk' e')
  | ((with_reducible refine' go_newM ?a ?b ?_); (case a => assumption); (case b => exact rfl); intro p' H' n' x' tk')
  | fail)
local macro_rules | `(tactic| walk_at "x*") => `(tactic| ((try dsimp only); (repeat first | walk_at "x1" | walk_at "1")))

/-! by what stands still and what is alive (each ends with fail: without it a case that fails is admitted) -/
local macro_rules | `(tactic| walk_at "fz") => `(tactic| first | assumption | ((refine' ge_same ?a ?b); (case a => assumption); (case b => walk_at "fz")) | fail)
local macro_rules | `(tactic| walk_at "get") => `(tactic| first | ((refine' Sta.get ?a ?b); (case a => assumption); (case b => walk_at "mem")) | fail)
local macro_rules | `(tactic| walk_at "sof") => `(tactic| first | ((refine' Sta.of ?a ?b); (case a => assumption); (case b => walk_at "fz")) | fail)
local macro_rules | `(tactic| walk_at "obj") => `(tactic| first | walk_at "get" | walk_at "sof" | fail)
local macro_rules | `(tactic| walk_at "sqT") => `(tactic| first | ((refine' SqT.of ?a); (case a => walk_at "sof")) | fail)
local macro_rules | `(tactic| walk_at "sqL") => `(tactic| first | ((refine' SqL.of ?a); (case a => (first | walk_at "get" | walk_at "sof" | fail))) | fail)
local macro_rules | `(tactic| walk_at "sta") => `(tactic| first | assumption | exact Sta.same (by assumption) (by assumption) | exact Sta.pull (by assumption) (by walk_at "pull") | fail)
local macro_rules | `(tactic| walk_at "1") => `(tactic| first
  | ((with_reducible refine' go_sfldS ?a ?p ?b ?c ?d ?e ?_); (case a => assumption); (case p => walk_at "perm"); (case b => assumption); (case c => assumption); (case d => exact rfl); (case e => walk_at "put"); intro H' st')
  | ((with_reducible refine' go_gfldS ?a ?p ?b ?c ?d ?e ?_); (case a => assumption); (case p => walk_at "perm"); (case b => assumption); (case c => assumption); (case d => exact rfl); (case e => walk_at "put"); intro H' st')
  | ((with_reducible refine' go_astS ?a ?p ?b ?e ?_); (case a => assumption); (case p => walk_at "perm"); (case b => exact rfl); (case e => walk_at "put"); intro H' st')
  | ((with_reducible refine' go_appendS ?a ?p ?b ?_); (case a => assumption); (case p => walk_at "perm"); (case b => walk_at "small"); intro H' st')
  | ((with_reducible refine' go_newF (o := .tup _) ?a ?_); (case a => assumption); intro p F' H' s e st')
  | fail)

def top (i : Nat) : Stmt := PySem.Challenge.pw_inningsbook_k61_tables_refused.main.body.getD i (.Pass ⟨0, 0, 0, 0⟩)
structure Txt (K : PySem.W.Frag) (mg : Str → Option Value) : Prop where
  b_ValueError : mg "ValueError" = none
  b_all : mg "all" = none
  b_bool : mg "bool" = none
  b_enumerate : mg "enumerate" = none
  b_int : mg "int" = none
  b_isinstance : mg "isinstance" = none
  b_len : mg "len" = none
  b_max : mg "max" = none
  b_min : mg "min" = none
  b_range : mg "range" = none
  b_reversed : mg "reversed" = none
  b_str : mg "str" = none
  bi_BookError : biB K (He.ga K "BookError") = true
  c_BadRow : mg "BadRow" = some (.ref (He.ga K "BadRow"))
  c_BookError : mg "BookError" = some (.ref (He.ga K "BookError"))
  c_Falling : mg "Falling" = some (.ref (He.ga K "Falling"))
  c_Misplaced : mg "Misplaced" = some (.ref (He.ga K "Misplaced"))
  c_NoEntry : mg "NoEntry" = some (.ref (He.ga K "NoEntry"))
  c_NotLet : mg "NotLet" = some (.ref (He.ga K "NotLet"))
  c_Twice : mg "Twice" = some (.ref (He.ga K "Twice"))
  c_Unfinished : mg "Unfinished" = some (.ref (He.ga K "Unfinished"))
  exm_BadRow_BookError : PySem.W.exmOne K (.ref (He.ga K "BadRow")) (.ref (He.ga K "BookError")) = some true
  exm_Falling_BookError : PySem.W.exmOne K (.ref (He.ga K "Falling")) (.ref (He.ga K "BookError")) = some true
  exm_Misplaced_BookError : PySem.W.exmOne K (.ref (He.ga K "Misplaced")) (.ref (He.ga K "BookError")) = some true
  exm_NoEntry_BookError : PySem.W.exmOne K (.ref (He.ga K "NoEntry")) (.ref (He.ga K "BookError")) = some true
  exm_NotLet_BookError : PySem.W.exmOne K (.ref (He.ga K "NotLet")) (.ref (He.ga K "BookError")) = some true
  exm_Twice_BookError : PySem.W.exmOne K (.ref (He.ga K "Twice")) (.ref (He.ga K "BookError")) = some true
  exm_Unfinished_BookError : PySem.W.exmOne K (.ref (He.ga K "Unfinished")) (.ref (He.ga K "BookError")) = some true
  g_MOST_COLUMNS : ∃ t, mg "MOST_COLUMNS" = some (.int 11 t)
  g_MOST_FIGURES : ∃ t, mg "MOST_FIGURES" = some (.int 4 t)
  g_MOST_SHARE : ∃ t, mg "MOST_SHARE" = some (.int 1000 t)
  kit_BadRow_BadRow : PySem.W.kitOne K (.ref (He.ga K "BadRow")) (.ref (He.ga K "BadRow")) = some true
  kit_BadRow_BookError : PySem.W.kitOne K (.ref (He.ga K "BadRow")) (.ref (He.ga K "BookError")) = some true
  kit_BadRow_Falling : PySem.W.kitOne K (.ref (He.ga K "BadRow")) (.ref (He.ga K "Falling")) = some false
  kit_BadRow_Misplaced : PySem.W.kitOne K (.ref (He.ga K "BadRow")) (.ref (He.ga K "Misplaced")) = some false
  kit_BadRow_NoEntry : PySem.W.kitOne K (.ref (He.ga K "BadRow")) (.ref (He.ga K "NoEntry")) = some false
  kit_BadRow_NotLet : PySem.W.kitOne K (.ref (He.ga K "BadRow")) (.ref (He.ga K "NotLet")) = some false
  kit_BadRow_Twice : PySem.W.kitOne K (.ref (He.ga K "BadRow")) (.ref (He.ga K "Twice")) = some false
  kit_BadRow_Unfinished : PySem.W.kitOne K (.ref (He.ga K "BadRow")) (.ref (He.ga K "Unfinished")) = some false
  kit_BadRow_ValueError : PySem.W.kitOne K (.ref (He.ga K "BadRow")) (.type "ValueError") = some true
  kit_Falling_BadRow : PySem.W.kitOne K (.ref (He.ga K "Falling")) (.ref (He.ga K "BadRow")) = some false
  kit_Falling_BookError : PySem.W.kitOne K (.ref (He.ga K "Falling")) (.ref (He.ga K "BookError")) = some true
  kit_Falling_Falling : PySem.W.kitOne K (.ref (He.ga K "Falling")) (.ref (He.ga K "Falling")) = some true
  kit_Falling_Misplaced : PySem.W.kitOne K (.ref (He.ga K "Falling")) (.ref (He.ga K "Misplaced")) = some false
  kit_Falling_NoEntry : PySem.W.kitOne K (.ref (He.ga K "Falling")) (.ref (He.ga K "NoEntry")) = some false
  kit_Falling_NotLet : PySem.W.kitOne K (.ref (He.ga K "Falling")) (.ref (He.ga K "NotLet")) = some false
  kit_Falling_Twice : PySem.W.kitOne K (.ref (He.ga K "Falling")) (.ref (He.ga K "Twice")) = some false
  kit_Falling_Unfinished : PySem.W.kitOne K (.ref (He.ga K "Falling")) (.ref (He.ga K "Unfinished")) = some false
  kit_Falling_ValueError : PySem.W.kitOne K (.ref (He.ga K "Falling")) (.type "ValueError") = some true
  kit_Misplaced_BadRow : PySem.W.kitOne K (.ref (He.ga K "Misplaced")) (.ref (He.ga K "BadRow")) = some false
  kit_Misplaced_BookError : PySem.W.kitOne K (.ref (He.ga K "Misplaced")) (.ref (He.ga K "BookError")) = some true
  kit_Misplaced_Falling : PySem.W.kitOne K (.ref (He.ga K "Misplaced")) (.ref (He.ga K "Falling")) = some false
  kit_Misplaced_Misplaced : PySem.W.kitOne K (.ref (He.ga K "Misplaced")) (.ref (He.ga K "Misplaced")) = some true
  kit_Misplaced_NoEntry : PySem.W.kitOne K (.ref (He.ga K "Misplaced")) (.ref (He.ga K "NoEntry")) = some false
  kit_Misplaced_NotLet : PySem.W.kitOne K (.ref (He.ga K "Misplaced")) (.ref (He.ga K "NotLet")) = some false
  kit_Misplaced_Twice : PySem.W.kitOne K (.ref (He.ga K "Misplaced")) (.ref (He.ga K "Twice")) = some false
  kit_Misplaced_Unfinished : PySem.W.kitOne K (.ref (He.ga K "Misplaced")) (.ref (He.ga K "Unfinished")) = some false
  kit_Misplaced_ValueError : PySem.W.kitOne K (.ref (He.ga K "Misplaced")) (.type "ValueError") = some true
  kit_NoEntry_BadRow : PySem.W.kitOne K (.ref (He.ga K "NoEntry")) (.ref (He.ga K "BadRow")) = some false
  kit_NoEntry_BookError : PySem.W.kitOne K (.ref (He.ga K "NoEntry")) (.ref (He.ga K "BookError")) = some true
  kit_NoEntry_Falling : PySem.W.kitOne K (.ref (He.ga K "NoEntry")) (.ref (He.ga K "Falling")) = some false
  kit_NoEntry_Misplaced : PySem.W.kitOne K (.ref (He.ga K "NoEntry")) (.ref (He.ga K "Misplaced")) = some false
  kit_NoEntry_NoEntry : PySem.W.kitOne K (.ref (He.ga K "NoEntry")) (.ref (He.ga K "NoEntry")) = some true
  kit_NoEntry_NotLet : PySem.W.kitOne K (.ref (He.ga K "NoEntry")) (.ref (He.ga K "NotLet")) = some false
  kit_NoEntry_Twice : PySem.W.kitOne K (.ref (He.ga K "NoEntry")) (.ref (He.ga K "Twice")) = some false
  kit_NoEntry_Unfinished : PySem.W.kitOne K (.ref (He.ga K "NoEntry")) (.ref (He.ga K "Unfinished")) = some false
  kit_NoEntry_ValueError : PySem.W.kitOne K (.ref (He.ga K "NoEntry")) (.type "ValueError") = some true
  kit_NotLet_BadRow : PySem.W.kitOne K (.ref (He.ga K "NotLet")) (.ref (He.ga K "BadRow")) = some false
  kit_NotLet_BookError : PySem.W.kitOne K (.ref (He.ga K "NotLet")) (.ref (He.ga K "BookError")) = some true
  kit_NotLet_Falling : PySem.W.kitOne K (.ref (He.ga K "NotLet")) (.ref (He.ga K "Falling")) = some false
  kit_NotLet_Misplaced : PySem.W.kitOne K (.ref (He.ga K "NotLet")) (.ref (He.ga K "Misplaced")) = some false
  kit_NotLet_NoEntry : PySem.W.kitOne K (.ref (He.ga K "NotLet")) (.ref (He.ga K "NoEntry")) = some false
  kit_NotLet_NotLet : PySem.W.kitOne K (.ref (He.ga K "NotLet")) (.ref (He.ga K "NotLet")) = some true
  kit_NotLet_Twice : PySem.W.kitOne K (.ref (He.ga K "NotLet")) (.ref (He.ga K "Twice")) = some false
  kit_NotLet_Unfinished : PySem.W.kitOne K (.ref (He.ga K "NotLet")) (.ref (He.ga K "Unfinished")) = some false
  kit_NotLet_ValueError : PySem.W.kitOne K (.ref (He.ga K "NotLet")) (.type "ValueError") = some true
  kit_Twice_BadRow : PySem.W.kitOne K (.ref (He.ga K "Twice")) (.ref (He.ga K "BadRow")) = some false
  kit_Twice_BookError : PySem.W.kitOne K (.ref (He.ga K "Twice")) (.ref (He.ga K "BookError")) = some true
  kit_Twice_Falling : PySem.W.kitOne K (.ref (He.ga K "Twice")) (.ref (He.ga K "Falling")) = some false
  kit_Twice_Misplaced : PySem.W.kitOne K (.ref (He.ga K "Twice")) (.ref (He.ga K "Misplaced")) = some false
  kit_Twice_NoEntry : PySem.W.kitOne K (.ref (He.ga K "Twice")) (.ref (He.ga K "NoEntry")) = some false
  kit_Twice_NotLet : PySem.W.kitOne K (.ref (He.ga K "Twice")) (.ref (He.ga K "NotLet")) = some false
  kit_Twice_Twice : PySem.W.kitOne K (.ref (He.ga K "Twice")) (.ref (He.ga K "Twice")) = some true
  kit_Twice_Unfinished : PySem.W.kitOne K (.ref (He.ga K "Twice")) (.ref (He.ga K "Unfinished")) = some false
  kit_Twice_ValueError : PySem.W.kitOne K (.ref (He.ga K "Twice")) (.type "ValueError") = some true
  kit_Unfinished_BadRow : PySem.W.kitOne K (.ref (He.ga K "Unfinished")) (.ref (He.ga K "BadRow")) = some false
  kit_Unfinished_BookError : PySem.W.kitOne K (.ref (He.ga K "Unfinished")) (.ref (He.ga K "BookError")) = some true
  kit_Unfinished_Falling : PySem.W.kitOne K (.ref (He.ga K "Unfinished")) (.ref (He.ga K "Falling")) = some false
  kit_Unfinished_Misplaced : PySem.W.kitOne K (.ref (He.ga K "Unfinished")) (.ref (He.ga K "Misplaced")) = some false
  kit_Unfinished_NoEntry : PySem.W.kitOne K (.ref (He.ga K "Unfinished")) (.ref (He.ga K "NoEntry")) = some false
  kit_Unfinished_NotLet : PySem.W.kitOne K (.ref (He.ga K "Unfinished")) (.ref (He.ga K "NotLet")) = some false
  kit_Unfinished_Twice : PySem.W.kitOne K (.ref (He.ga K "Unfinished")) (.ref (He.ga K "Twice")) = some false
  kit_Unfinished_Unfinished : PySem.W.kitOne K (.ref (He.ga K "Unfinished")) (.ref (He.ga K "Unfinished")) = some true
  kit_Unfinished_ValueError : PySem.W.kitOne K (.ref (He.ga K "Unfinished")) (.type "ValueError") = some true
  nf_BadRow_place : PySem.W.findIn K (.ref (He.ga K "BadRow")) "place" = some none
  nf_Falling_place : PySem.W.findIn K (.ref (He.ga K "Falling")) "place" = some none
  nf_Misplaced_place : PySem.W.findIn K (.ref (He.ga K "Misplaced")) "place" = some none
  nf_Twice_place : PySem.W.findIn K (.ref (He.ga K "Twice")) "place" = some none
  nf_Unfinished_place : PySem.W.findIn K (.ref (He.ga K "Unfinished")) "place" = some none
  oex_BadRow : OexC K (He.ga K "BadRow")
  oex_Falling : OexC K (He.ga K "Falling")
  xd_BadRow : ExcD K (He.ga K "BadRow")
  xd_Falling : ExcD K (He.ga K "Falling")
  xd_Misplaced : ExcD K (He.ga K "Misplaced")
  xd_NoEntry : ExcD K (He.ga K "NoEntry")
  xd_NotLet : ExcD K (He.ga K "NotLet")
  xd_Twice : ExcD K (He.ga K "Twice")
  xd_Unfinished : ExcD K (He.ga K "Unfinished")
/-! ### _law_mixed -/
abbrev s__law_mixed : Stmt := top 21
abbrev N__law_mixed : List Str := ["_law_cell_here", "_law_k", "_law_m"]
theorem sc__law_mixed : FnScope N__law_mixed ["_law_cell_here", "_law_k"] (defScope s__law_mixed) := ⟨rfl, rfl, rfl, by decide +kernel, rfl, by decide +kernel, by decide +kernel⟩
def pr__law_mixed (K : PySem.W.Frag) : V → V → Hp → VK → XK → Prop := fun a0 a1 H Q E => ∃ c k : Int, a0 = .int c ∧ a1 = .int k ∧ 0 ≤ k ∧ k ≤ 10000 ∧ ∀ r : Int, 0 ≤ r → r < 2147483587 → Q (.int r) H
abbrev sp__law_mixed (K : PySem.W.Frag) : Sp := Sp2 (pr__law_mixed K)
theorem ok__law_mixed {P : Program} {w : World} {K : PySem.W.Frag} {mg : Str → Option Value} {base : Heap} {f : Addr} {fd : FuncData} (F : FunD K "_law_mixed" "_law_mixed" (defArgs s__law_mixed) (defBody s__law_mixed) (defScope s__law_mixed) [] [] f fd) (T : Txt K mg)  : FnOk P w K mg base CX0 1 f fd ["_law_cell_here", "_law_k"] (sp__law_mixed K) := by
  refine F.ok sc__law_mixed (fun vs H Q E h => len2 h) (fun cdv A outer s H vs Q E hr h => ?_)
  obtain ⟨a0, a1, rfl, h⟩ := h
  have hu := hu_of hr
  refine ⟨_, PSs.nox ((pss_cons (ps_set (i := 2) sc__law_mixed.nd rfl (by first | exact Or.inl rfl | exact Or.inr rfl) (pe_op op_mod (pe_op op_addX (pe_op op_mulX (pe_op op_mod (pv 0) pe_int) pe_int) (pe_op op_mulX (pe_op op_addX (pe_op op_addX (pe_op op_mulX (pv 1) (pv 1)) (pe_op op_mulX pe_int (pv 1))) pe_int) pe_int)) pe_int))
      (pss_cons (ps_set (i := 2) sc__law_mixed.nd rfl (by first | exact Or.inl rfl | exact Or.inr rfl) (pe_op op_addX (pe_op op_mod (pe_op op_mulX (pv 2) (pv 2)) pe_int) (pv 1)))
      (pss_one (ps_ret (pe_op op_mod (pe_op op_mulX (pv 2) (pe_op op_addX (pe_op op_addX (pe_op op_fdiv (pv 2) pe_int) (pe_op op_mulX pe_int (pv 1))) pe_int)) pe_int)))))), ?_⟩
  refine go_start (σ := [some a0, some a1, none]) rfl ?_
  try dsimp only [cxOf, Cx.nox, Cx.wish, Cx.tr, Cx.suite]
  obtain ⟨c, k, rfl, rfl, h1, h2, hq⟩ := h
  walk_at "*"
  exact hq _ (Int.emod_nonneg _ (by decide)) (Int.emod_lt_of_pos _ (by decide))

/-- a pot at p: its count below n -/
def Pot (H : Hp) (p : Addr) (n : Int) : Prop := ∃ a c f : Int, H p = some (.lst [.int a, .int c, .int f]) ∧ 0 ≤ c ∧ c ≤ n
theorem Pot.kp {H H' : Hp} {p q : Addr} {n : Int} (h : Pot H p n) (hq : p ≠ q) (k : Kp (fun a => a = q) H H') : Pot H' p n := by
  obtain ⟨a, c, f, e, r⟩ := h
  exact ⟨a, c, f, k _ _ e hq, r⟩
theorem Pot.same {H H' : Hp} {p : Addr} {n : Int} (h : Pot H p n) (k : Same H H') : Pot H' p n := by
  obtain ⟨a, c, f, e, r⟩ := h
  exact ⟨a, c, f, k _ _ e, r⟩
theorem Pot.le {H : Hp} {p : Addr} {n m : Int} (h : Pot H p n) (k : n ≤ m) : Pot H p m := by
  obtain ⟨a, c, f, e, r, s⟩ := h
  exact ⟨a, c, f, e, r, by omega⟩
theorem Pot.ne {H : Hp} {p l : Addr} {n : Int} (h : Pot H p n) (hl : H l = none) : l ≠ p := by
  obtain ⟨a, c, f, e, r⟩ := h
  exact (ne_of_none e hl).symm
/-- what is new behind was new ahead -/
theorem _root_.L2.A.Kp.back {H H' : Hp} {p b : Addr} {o : HO} (k : Kp (fun a => a = p) H H') (hp : H' p = some o) (hb : H' b = none) : H b = none := by
  cases e : H b with
  | none => rfl
  | some u =>
    have n : ¬ b = p := by
      rintro rfl
      rw [hp] at hb
      cases hb
    have q := k b u e n
    rw [hb] at q
    cases q
theorem Pot.is {H : Hp} {p : Addr} {n : Int} (h : Pot H p n) : H p = some (.lst (match H p with | some (.lst xs) => xs | _ => [])) := by
  obtain ⟨a, c, f, e, r⟩ := h
  rw [e]

/-! ### _law_take -/
abbrev s__law_take : Stmt := top 22
abbrev N__law_take : List Str := ["_law_pot_here", "_law_many", "_law_got"]
theorem sc__law_take : FnScope N__law_take ["_law_pot_here", "_law_many"] (defScope s__law_take) := ⟨rfl, rfl, rfl, by decide +kernel, rfl, by decide +kernel, by decide +kernel⟩
def pr__law_take (K : PySem.W.Frag) : V → V → Hp → VK → XK → Prop := fun a0 a1 H Q E => ∃ (p : Addr) (n m : Int), a0 = .ref p ∧ a1 = .int m ∧ Pot H p n ∧ n ≤ 9000 ∧ 1 ≤ m ∧ m < 1073741824 ∧ ∀ (r : Int) (H' : Hp), 0 ≤ r → r < m → Kp (fun a => a = p) H H' → Pot H' p (n + 1) → Q (.int r) H' 
abbrev sp__law_take (K : PySem.W.Frag) : Sp := Sp2 (pr__law_take K)
theorem ok__law_take {P : Program} {w : World} {K : PySem.W.Frag} {mg : Str → Option Value} {base : Heap} {f : Addr} {fd : FuncData} (F : FunD K "_law_take" "_law_take" (defArgs s__law_take) (defBody s__law_take) (defScope s__law_take) [] [] f fd) (T : Txt K mg) (d__law_mixed : Dn P w K mg base CX0 1 "_law_mixed" ["_law_cell_here", "_law_k"] [] (sp__law_mixed K)) : FnOk P w K mg base CX0 2 f fd ["_law_pot_here", "_law_many"] (sp__law_take K) := by
  refine F.ok sc__law_take (fun vs H Q E h => len2 h) (fun cdv A outer s H vs Q E hr h => ?_)
  obtain ⟨a0, a1, rfl, h⟩ := h
  have hu := hu_of hr
  refine ⟨_, PSs.nox ((pss_cons (ps_asg (pe_op op_addX (pe_ix (ix_X hu) (pv 0) pe_int (fun _ _ => rfl)) pe_int) (pg_sub (pv 0) pe_int (set_X hu)))
      (pss_cons (ps_if (pt_cmpR (op_eqX hr.units) (pe_ix (ix_X hu) (pv 0) pe_int (fun _ _ => rfl)) pe_int (nomark _)) (pss_cons (ps_set (i := 2) sc__law_take.nd rfl (by first | exact Or.inl rfl | exact Or.inr rfl) (pe_op op_mod (pe_ix (ix_X hu) (pv 0) pe_int (fun _ _ => rfl)) (pv 1)))
      (pss_cons (ps_asg (pe_op op_fdiv (pe_ix (ix_X hu) (pv 0) pe_int (fun _ _ => rfl)) (pv 1)) (pg_sub (pv 0) pe_int (set_X hu)))
      (pss_one (ps_ret (pv 2))))) pss_nil)
      (pss_one (ps_ret (pe_op op_mod (pe_d d__law_mixed (hr.mono (by decide)) rfl pass0 (pa_cons (pe_ix (ix_X hu) (pv 0) pe_int (fun _ _ => rfl)) (pa_cons (pe_ix (ix_X hu) (pv 0) pe_int (fun _ _ => rfl)) pa_nil))) (pv 1))))))), ?_⟩
  refine go_start (σ := [some a0, some a1, none]) rfl ?_
  try dsimp only [cxOf, Cx.nox, Cx.wish, Cx.tr, Cx.suite]
  obtain ⟨p, n', m, rfl, rfl, ⟨n, c, f, hp, h1, h2⟩, h2', h3, h4, hq⟩ := h
  walk_at "*"
  refine go_sL hp rfl ?_
  walk_at "*"
  refine if2 (fun c => ?_) (fun c => ?_)
  · walk_at "*"
    refine go_sL upd_same rfl ?_
    walk_at "*"
    rw [upd_upd]
    exact hq _ _ (Int.emod_nonneg _ (by omega)) (Int.emod_lt_of_pos _ (by omega)) Kp.upd ⟨_, _, _, upd_same, by omega, by omega⟩
  · walk_at "*"
    refine go_sp2 ⟨_, _, rfl, rfl, by omega, by omega, fun r _ _ => ?_⟩
    walk_at "*"
    exact hq _ _ (Int.emod_nonneg _ (by omega)) (Int.emod_lt_of_pos _ (by omega)) Kp.upd ⟨_, _, _, upd_same, by omega, by omega⟩
/-! ### _law_pot -/
abbrev s__law_pot : Stmt := top 23
abbrev N__law_pot : List Str := ["_law_cell_here"]
theorem sc__law_pot : FnScope N__law_pot ["_law_cell_here"] (defScope s__law_pot) := ⟨rfl, rfl, rfl, by decide +kernel, rfl, by decide +kernel, by decide +kernel⟩
def pr__law_pot (K : PySem.W.Frag) : V → Hp → VK → XK → Prop := fun a0 H Q E => ∃ n : Int, a0 = .int n ∧ ∀ (p : Addr) (H' : Hp), H p = none → Same H H' → Pot H' p 0 → Q (.ref p) H' 
abbrev sp__law_pot (K : PySem.W.Frag) : Sp := Sp1 (pr__law_pot K)
theorem ok__law_pot {P : Program} {w : World} {K : PySem.W.Frag} {mg : Str → Option Value} {base : Heap} {f : Addr} {fd : FuncData} (F : FunD K "_law_pot" "_law_pot" (defArgs s__law_pot) (defBody s__law_pot) (defScope s__law_pot) [] [] f fd) (T : Txt K mg)  : FnOk P w K mg base CX0 1 f fd ["_law_cell_here"] (sp__law_pot K) := by
  refine F.ok sc__law_pot (fun vs H Q E h => len1 h) (fun cdv A outer s H vs Q E hr h => ?_)
  obtain ⟨a0, rfl, h⟩ := h
  have hu := hu_of hr
  refine ⟨_, PSs.nox ((pss_one (ps_ret (pe_lst (pa_cons (pe_op op_fdiv (pv 0) pe_int) (pa_cons pe_int (pa_cons (pe_op op_mod (pv 0) pe_int) pa_nil))))))), ?_⟩
  refine go_start (σ := [some a0]) rfl ?_
  try dsimp only [cxOf, Cx.nox, Cx.wish, Cx.tr, Cx.suite]
  obtain ⟨n, rfl, hq⟩ := h
  walk_at "*"
  exact fun p hp => hq p _ hp (same_new hp) ⟨_, _, _, upd_same, by omega, by omega⟩
/-! ### _law_cell -/
abbrev s__law_cell : Stmt := top 20
abbrev N__law_cell : List Str := ["_law_script", "_law_k"]
theorem sc__law_cell : FnScope N__law_cell ["_law_script", "_law_k"] (defScope s__law_cell) := ⟨rfl, rfl, rfl, by decide +kernel, rfl, by decide +kernel, by decide +kernel⟩
def pr__law_cell (K : PySem.W.Frag) : V → V → Hp → VK → XK → Prop := fun a0 a1 H Q E => ∃ (a : Addr) (ns : List Int), a0 = .ref a ∧ a1 = .int 0 ∧ SqL K H a (ns.map V.int) ∧ ∀ z : Int, Q (.int z) H
abbrev sp__law_cell (K : PySem.W.Frag) : Sp := Sp2 (pr__law_cell K)
theorem ok__law_cell {P : Program} {w : World} {K : PySem.W.Frag} {mg : Str → Option Value} {base : Heap} {f : Addr} {fd : FuncData} (F : FunD K "_law_cell" "_law_cell" (defArgs s__law_cell) (defBody s__law_cell) (defScope s__law_cell) [] [] f fd) (T : Txt K mg)  : FnOk P w K mg base CX0 1 f fd ["_law_script", "_law_k"] (sp__law_cell K) := by
  refine F.ok sc__law_cell (fun vs H Q E h => len2 h) (fun cdv A outer s H vs Q E hr h => ?_)
  obtain ⟨a0, a1, rfl, h⟩ := h
  have hu := hu_of hr
  refine ⟨_, PSs.nox ((pss_cons (ps_if (pt_cmpR op_lt (pv 1) (pe_callB call_lenX (by rfl) T.b_len L2.A.boot_len (pa_cons (pv 0) pa_nil)) (nomark _)) (pss_one (ps_ret (pe_ix (ix_X hu) (pv 0) (pv 1) (fun _ _ => rfl)))) pss_nil)
      (pss_one (ps_ret pe_int)))), ?_⟩
  refine go_start (σ := [some a0, some a1]) rfl ?_
  try dsimp only [cxOf, Cx.nox, Cx.wish, Cx.tr, Cx.suite]
  obtain ⟨a, ns, rfl, rfl, hS, hq⟩ := h
  walk_at "*"
  refine if2 (fun c => ?_) (fun c => ?_)
  · walk_at "*"
    cases ns with
    | nil => simp at c
    | cons z zs =>
      refine go_xL (v := .int z) hS (by simp [atI, ixN]) ?_
      exact hq z
  · walk_at "*"
    exact hq 0

abbrev lstI (n : Nat) (f : Nat → Int) : List V := lstF n (fun i => .int (f i))
structure Tab (H : Hp) (t : Addr) (n m : Nat) (ta : Nat → Addr) (tf : Nat → Nat → Int) : Prop where
  top : H t = some (.lst (lstF n fun i => .ref (ta i)))
  row : ∀ i, i < n → H (ta i) = some (.lst (lstI m (tf i)))
  ne : ∀ i, i < n → ta i ≠ t
theorem Tab.same {H H' : Hp} {t : Addr} {n m : Nat} {ta : Nat → Addr} {tf : Nat → Nat → Int} (h : Tab H t n m ta tf) (s : Same H H') : Tab H' t n m ta tf := ⟨s _ _ h.top, fun i hi => s _ _ (h.row i hi), h.ne⟩
/-- kept by what touches p alone, p new behind -/
theorem Tab.kp {H0 H H' : Hp} {t p : Addr} {n m : Nat} {ta : Nat → Addr} {tf : Nat → Nat → Int} (h0 : Tab H0 t n m ta tf) (hp : H0 p = none) (h : Tab H t n m ta tf) (k : Kp (fun a => a = p) H H') : Tab H' t n m ta tf :=
  ⟨k _ _ h.top (ne_of_none h0.top hp), fun i hi => k _ _ (h.row i hi) (ne_of_none (h0.row i hi) hp), h.ne⟩
structure Good (n m : Nat) (tf : Nat → Nat → Int) : Prop where
  n0 : 1 ≤ n
  n1 : n ≤ 64
  m0 : 1 ≤ m
  m1 : m ≤ 11
  lo : ∀ i k, i < n → k < m → 0 ≤ tf i k ∧ tf i k ≤ 1000
  fall : ∀ i k, i < n → k + 1 < m → tf i (k + 1) ≤ tf i k
  rise : ∀ i k, i + 1 < n → k < m → tf i k ≤ tf (i + 1) k
  zero : ∀ k, k < m → tf 0 k = 0
theorem Good.snoc {n m : Nat} {tf : Nat → Nat → Int} {f : Nat → Int} (g : Good n m tf) (hn : n + 1 ≤ 64) (h1 : ∀ k, k < m → 0 ≤ f k ∧ f k ≤ 1000) (h2 : ∀ k, k + 1 < m → f (k + 1) ≤ f k) (h3 : ∀ k, k < m → tf (n - 1) k ≤ f k) :
    Good (n + 1) m (fun i => if i = n then f else tf i) where
  n0 := by omega
  n1 := hn
  m0 := g.m0
  m1 := g.m1
  lo := fun i k hi hk => by
    by_cases e : i = n
    · rw [if_pos e]; exact h1 k hk
    · rw [if_neg e]; exact g.lo i k (by omega) hk
  fall := fun i k hi hk => by
    by_cases e : i = n
    · rw [if_pos e]; exact h2 k hk
    · rw [if_neg e]; exact g.fall i k (by omega) hk
  rise := fun i k hi hk => by
    have := g.n0
    rw [if_neg (by omega)]
    by_cases e : i + 1 = n
    · rw [if_pos e]
      have := h3 k hk
      rw [show i = n - 1 by omega]
      exact this
    · rw [if_neg e]; exact g.rise i k (by omega) hk
  zero := fun k hk => by
    have := g.n0
    rw [if_neg (by omega)]
    exact g.zero k hk
theorem cutV_map {ns : List Int} {lo hi : Option Int} : ∃ ms : List Int, cutV (ns.map V.int) lo hi = ms.map V.int ∧ ms.length ≤ ns.length := by
  refine ⟨(ns.drop (HT.sIx (ns.map V.int).length 0 lo)).take (HT.sIx (ns.map V.int).length (ns.map V.int).length hi - HT.sIx (ns.map V.int).length 0 lo), ?_, ?_⟩
  · unfold cutV
    rw [List.map_take, List.map_drop]
  · rw [List.length_take, List.length_drop]
    omega

/-! ### _law_table -/
abbrev s__law_table : Stmt := top 25
abbrev N__law_table : List Str := ["_law_script", "_law_pot_here", "_law_many", "_law_grown", "_law_table_here", "_law_cell_here", "_law_own", "_law_rises", "_law_row", "_law_k"]
theorem sc__law_table : FnScope N__law_table ["_law_script"] (defScope s__law_table) := ⟨rfl, rfl, rfl, by decide +kernel, rfl, by decide +kernel, by decide +kernel⟩
def pr__law_table (K : PySem.W.Frag) : V → Hp → VK → XK → Prop := fun a0 H Q E => ∃ (a : Addr) (ns : List Int), a0 = .ref a ∧ SqL K H a (ns.map V.int) ∧ ns.length ≤ 63 ∧ ∀ (t : Addr) (n m : Nat) (ta : Nat → Addr) (tf : Nat → Nat → Int) (H' : Hp), Same H H' → Tab H' t n m ta tf → Good n m tf → Q (.ref t) H' 
abbrev sp__law_table (K : PySem.W.Frag) : Sp := Sp1 (pr__law_table K)
theorem ok__law_table {P : Program} {w : World} {K : PySem.W.Frag} {mg : Str → Option Value} {base : Heap} {f : Addr} {fd : FuncData} (F : FunD K "_law_table" "_law_table" (defArgs s__law_table) (defBody s__law_table) (defScope s__law_table) [] [] f fd) (T : Txt K mg) (d__law_pot : Dn P w K mg base CX0 1 "_law_pot" ["_law_cell_here"] [] (sp__law_pot K)) (d__law_cell : Dn P w K mg base CX0 1 "_law_cell" ["_law_script", "_law_k"] [] (sp__law_cell K)) (d__law_take : Dn P w K mg base CX0 2 "_law_take" ["_law_pot_here", "_law_many"] [] (sp__law_take K)) : FnOk P w K mg base CX0 3 f fd ["_law_script"] (sp__law_table K) := by
  refine F.ok sc__law_table (fun vs H Q E h => len1 h) (fun cdv A outer s H vs Q E hr h => ?_)
  obtain ⟨a0, rfl, h⟩ := h
  have hu := hu_of hr
  refine ⟨_, PSs.nox ((pss_cons (ps_set (i := 1) sc__law_table.nd rfl (by first | exact Or.inl rfl | exact Or.inr rfl) (pe_d d__law_pot (hr.mono (by decide)) rfl pass0 (pa_cons (pe_d d__law_cell (hr.mono (by decide)) rfl pass0 (pa_cons (pv 0) (pa_cons pe_int pa_nil))) pa_nil)))
      (pss_cons (ps_set (i := 2) sc__law_table.nd rfl (by first | exact Or.inl rfl | exact Or.inr rfl) (pe_op op_addX pe_int (pe_d d__law_take (hr.mono (by decide)) rfl pass0 (pa_cons (pv 1) (pa_cons pe_int pa_nil)))))
      (pss_cons (ps_set (i := 3) sc__law_table.nd rfl (by first | exact Or.inl rfl | exact Or.inr rfl) (pe_ix (ix_X hu) (pe_lst (pa_cons pe_int (pa_cons pe_int (pa_cons pe_int (pa_cons pe_int pa_nil))))) (pe_d d__law_take (hr.mono (by decide)) rfl pass0 (pa_cons (pv 1) (pa_cons pe_int pa_nil))) (fun _ _ => rfl)))
      (pss_cons (ps_set (i := 4) sc__law_table.nd rfl (by first | exact Or.inl rfl | exact Or.inr rfl) (pe_lst (pa_cons (pe_lc (own := [("_law_k", 9)]) rfl sc__law_table.nd (pi_range1 rfl T.b_range (pa_cons (pv 2) pa_nil)) (blkOk_by (N := N__law_table) (sc := defScope s__law_table) (own := [("_law_k", 9)]) (by decide +kernel)) (fun _ _ _ _ _ => (pg_name (i := 9) sc__law_table.nd rfl (by first | exact Or.inl rfl | exact Or.inr rfl))) (fun _ _ _ _ _ => pts_nil) (fun _ _ _ _ _ => pe_int)) pa_nil)))
      (pss_cons (ps_for PassesOwn.never rfl (pi_X (pe_slice sl_X (pv 0) (po_some pe_int) (po_some pe_int))) (pg_name (i := 5) sc__law_table.nd rfl (by first | exact Or.inl rfl | exact Or.inr rfl)) (pss_cons (ps_set (i := 6) sc__law_table.nd rfl (by first | exact Or.inl rfl | exact Or.inr rfl) (pe_d d__law_pot (hr.mono (by decide)) rfl pass0 (pa_cons (pv 5) pa_nil)))
      (pss_cons (ps_setLc (i := 7) (own := [("_law_k", 9)]) rfl sc__law_table.nd rfl rfl (sw_true rfl rfl rfl (by decide +kernel)) (pi_range1 rfl T.b_range (pa_cons (pv 2) pa_nil)) (blkOk_by (N := N__law_table) (sc := defScope s__law_table) (own := [("_law_k", 9)]) (by decide +kernel)) (fun _ _ _ _ _ => (pg_name (i := 9) sc__law_table.nd rfl (by first | exact Or.inl rfl | exact Or.inr rfl))) (fun _ _ _ _ _ => pts_nil) (fun _ _ _ _ _ => (pe_d d__law_take (hr.mono (by decide)) rfl pass0 (pa_cons (pv 6) (pa_cons (pe_op (op_addK (K := K) rfl) pe_int (pv 3)) pa_nil)))))
      (pss_cons (ps_setLc (i := 8) (own := [("_law_k", 9)]) rfl sc__law_table.nd rfl rfl (sw_true rfl rfl rfl (by decide +kernel)) (pi_range1 rfl T.b_range (pa_cons (pe_op op_addX (pv 2) pe_int) pa_nil)) (blkOk_by (N := N__law_table) (sc := defScope s__law_table) (own := [("_law_k", 9)]) (by decide +kernel)) (fun _ _ _ _ _ => (pg_name (i := 9) sc__law_table.nd rfl (by first | exact Or.inl rfl | exact Or.inr rfl))) (fun _ _ _ _ _ => pts_nil) (fun _ _ _ _ _ => pe_int))
      (pss_cons (ps_for PassesOwn.never rfl (pi_revR (by rfl) T.b_reversed (prg_1 (by rfl) T.b_range (pv 2))) (pg_name (i := 9) sc__law_table.nd rfl (by first | exact Or.inl rfl | exact Or.inr rfl)) (pss_one (ps_asg (pe_callB (call_mn2 rfl) (by rfl) T.b_min L2.A.boot_min (pa_cons pe_int (pa_cons (pe_callB (call_mx2 rfl) (by rfl) T.b_max L2.A.boot_max (pa_cons (pe_ix (ix_X hu) (pv 8) (pe_op op_addX (pv 9) pe_int) (fun _ _ => rfl)) (pa_cons (pe_op op_addX (pe_ix (ix_X hu) (pe_ix (ix_X hu) (pv 4) (pe_un un_neg pe_int) (fun _ _ => rfl)) (pv 9) (fun _ _ => rfl)) (pe_ix (ix_X hu) (pv 7) (pv 9) (fun _ _ => rfl))) pa_nil))) pa_nil))) (pg_sub (pv 8) (pv 9) (set_X hu)))))
      (pss_one (ps_expr (pe_bm PySem.F.plainAttrs_list PySem.F.slot_list_append PySem.F.type_list_append mt_append (pv 4) (pa_cons (pe_slice sl_X (pv 8) po_none (po_some (pv 2))) pa_nil)))))))))
      (pss_one (ps_ret (pv 4))))))))), ?_⟩
  refine go_start (σ := [some a0, none, none, none, none, none, none, none, none, none]) rfl ?_
  try dsimp only [cxOf, Cx.nox, Cx.wish, Cx.tr, Cx.suite]
  obtain ⟨a, ns, rfl, hS, hn, hq⟩ := h
  walk_at "*"
  refine go_sp2 ⟨a, ns, rfl, rfl, hS, fun z0 => ?_⟩
  walk_at "*"
  refine go_sp1 ⟨_, rfl, fun p H1 hp s1 p1 => ?_⟩
  walk_at "*"
  refine go_sp2 ⟨p, 0, _, rfl, rfl, p1, by omega, by omega, by omega, fun r H2 r0 r1 k2 p2 => ?_⟩
  walk_at "*"
  intro g hg
  walk_at "*"
  refine go_sp2 ⟨p, _, _, rfl, rfl, p2.same (same_new hg), by omega, by omega, by omega, fun q H3 q0 q1 k3 p3 => ?_⟩
  obtain ⟨G, eG, mG⟩ := menuI (L := [1, 7, 60, 500]) q0 q1
  have hG : 1 ≤ G ∧ G ≤ 500 := by
    have := mG
    simp at this
    omega
  have eg := k3 _ _ upd_same (p2.ne hg)
  walk_at "*"
  refine go_xL (.of eg) eG ?_
  have s3 : Same H H3 := same_kp (same_kp s1 (k2.trans (Kp.same (same_new hg))) hp) k3 hp
  walk_at "*"
  obtain ⟨m, rfl⟩ : ∃ m : Nat, r = (m : Int) := ⟨r.toNat, by omega⟩
  generalize hMM : (1 + (m : Int)) = MM
  obtain ⟨M, rfl⟩ : ∃ M : Nat, MM = (M : Int) := ⟨MM.toNat, by omega⟩
  walk_at "*"
  refine LcW.it walk_range (fun D i ys H' => Same H3 H' ∧ ys = lstI i (fun _ => 0)) (by omega) (fun D hD => ⟨same_new hD, rfl⟩) (fun _ _ _ _ _ _ _ _ => trivial) ?_ ?_
  · rintro D i x ys H4 H5 hD hi hl e ⟨s, rfl⟩ ⟨rfl, rfl⟩ yes no hy hn
    refine go_name rfl ⟨rfl, ?_⟩
    walk_at "*"
    exact hy _ _ e ⟨same_mut s hD, by rw [lstF_app]; exact lstF_congr fun j hj => by by_cases z : j = i <;> simp [z]⟩
  rintro D ys H4 hD e hl ⟨s4, rfl⟩
  walk_at "*"
  intro t ht
  walk_at "*"
  refine go_slL (ys := _) (seqL_same hS ((s3.trans s4).trans (same_new ht))) rfl ?_
  obtain ⟨ms, ems, lms⟩ := cutV_map (ns := ns) (lo := some 1) (hi := some 63)
  rw [ems]
  intro l hl
  walk_at "*"
  refine go_iL (.of upd_same) ?_
  have ht0 : H t = none := s3.free (s4.free ht)
  have tl : t ≠ l := ne_of_none upd_same hl
  refine ForW.list (xs := ms.map V.int) (fun i σ H' => Same H H' ∧ H' l = some (.lst (ms.map V.int)) ∧ ∃ ta tf v6 v7 v8 v9 v10, Tab H' t (i + 1) M ta tf ∧ Good (i + 1) M tf ∧ σ = [some (.ref a), some (.ref p), some (.int (M : Int)), some (.int G), some (.ref t), v6, v7, v8, v9, v10]) ⟨(s3.trans s4).trans (same_new2 (same_new ht) hl), upd_same, fun _ => D, fun _ _ => 0, _, _, _, _, _, ⟨?_, ?_, ?_⟩, ⟨by omega, by omega, by omega, by omega, by omega, by omega, by omega, by omega⟩, rfl⟩ (fun i σ H' _ ⟨_, g, _⟩ => .of g) ?_ ?_
  · rw [upd_ne tl]; exact upd_same
  · intro i hi
    rw [upd_ne (ne_of_none (show (upd H4 t _) D = _ from by rw [upd_ne (ne_of_none e ht)]; exact e) hl), upd_ne (ne_of_none e ht), e]
    rfl
  · intro i hi
    exact ne_of_none e ht
  · rintro i x σ H5 hi ⟨s5, el, ta, tf, v6, v7, v8, v9, v10, tb, gd, rfl⟩
    have li : i < ms.length := by have := (List.getElem?_eq_some_iff.mp hi).1; rwa [List.length_map] at this
    obtain ⟨z, rfl, _⟩ := int_at hi
    walk_at "*"
    refine go_sp1 ⟨_, rfl, fun o H6 ho s6 p6 => ?_⟩
    walk_at "*"
    refine LcW.it walk_range (fun D i ys H' => ∃ rf : Nat → Int, Same H5 H' ∧ Pot H' o i ∧ ys = lstI i rf ∧ ∀ k, k < i → 0 ≤ rf k) (by omega) (fun D hD => ⟨fun _ => 0, same_new2 s6 hD, p6.same (same_new hD), rfl, by omega⟩) (fun _ _ _ _ _ _ _ _ => trivial) ?_ ?_
    · rintro D' j x ys H7 H8 hD' hj hl' e' ⟨rf, s, pt, rfl, hr⟩ ⟨rfl, rfl⟩ yes no hy hn
      refine go_name rfl ⟨rfl, ?_⟩
      walk_at "*"
      refine go_sp2 ⟨o, _, _, rfl, rfl, pt, by omega, by omega, by omega, fun rr H9 rr0 rr1 k9 p9 => ?_⟩
      have Do : D' ≠ o := p6.ne hD'
      refine hy _ _ (k9 _ _ e' Do) ⟨fun k => if k = j then rr else rf k, same_mut (same_kp s k9 ho) (s6.free hD'), p9.kp Do.symm Kp.upd, ?_, ?_⟩
      · rw [lstF_app]
        exact lstF_congr fun k hk => by by_cases z : k = j <;> simp [z]
      · intro k hk
        show 0 ≤ if k = j then rr else rf k
        by_cases z : k = j
        · rw [if_pos z]; exact rr0
        · rw [if_neg z]; exact hr k (by omega)
    rintro D' ys H7 hD' e' hl' ⟨rf, s7, p7, rfl, hr⟩
    walk_at "*"
    refine LcW.it walk_range (fun D i ys H' => Same H7 H' ∧ ys = lstI i (fun _ => 0)) (by omega) (fun D hD => ⟨same_new hD, rfl⟩) (fun _ _ _ _ _ _ _ _ => trivial) ?_ ?_
    · rintro D i x ys H4 H5 hD hi hl e ⟨s, rfl⟩ ⟨rfl, rfl⟩ yes no hy hn
      refine go_name rfl ⟨rfl, ?_⟩
      walk_at "*"
      exact hy _ _ e ⟨same_mut s hD, by rw [lstF_app]; exact lstF_congr fun j hj => by by_cases z : j = i <;> simp [z]⟩
    rintro R ys H8 hR eR hl'' ⟨s8, rfl⟩
    have hR0 : H5 R = none := s7.free hR
    have hRD : D' ≠ R := ne_of_none e' hR
    rw [show ((M : Int) + 1).toNat = M + 1 by omega] at eR
    rw [show ((M : Int)).toNat = M by omega] at e' hr
    walk_at "*"
    refine ForW.it walk_rangeC (fun j σ H' => ∃ (f : Nat → Int) (v : Option V), Same H7 H' ∧ H' R = some (.lst (lstI (M + 1) f)) ∧ (∀ q, q ≤ M → 0 ≤ f q ∧ f q ≤ 1000) ∧ (∀ q, M - j ≤ q → q < M → f (q + 1) ≤ f q ∧ tf i q ≤ f q) ∧ σ = [some (.ref a), some (.ref p), some (.int (M : Int)), some (.int G), some (.ref t), some (.int z), some (.ref o), some (.ref D'), some (.ref R), v]) ⟨fun _ => 0, _, s8, eR, fun _ _ => ⟨Int.le_refl _, show (0 : Int) ≤ 1000 by decide⟩, fun q h1 h2 => (by omega), rfl⟩ (fun _ _ _ _ _ => trivial) ?_ ?_
    · rintro j x σ H9 H9' hj ⟨f, v, s9, e9, f1, f2, rfl⟩ ⟨rfl, rfl⟩
      have hj' : j < M := by omega
      obtain ⟨k, hk, ek⟩ : ∃ k : Nat, k = M - 1 - j ∧ (M : Int) - 1 + (j : Int) * (-1) = k := ⟨M - 1 - j, rfl, by omega⟩
      dsimp only
      rw [ek]
      walk_at "*"
      refine go_xL (.of e9) (lstF_atI (by omega) (by omega)) ?_
      walk_at "*"
      have s59 : Same H5 H9' := s7.trans s9
      refine go_xL (.of (s59 _ _ tb.top)) lstF_last ?_
      walk_at "*"
      refine go_xL (.of (s59 _ _ (tb.row i (by omega)))) (lstF_atI (by omega) (by omega)) ?_
      walk_at "*"
      refine go_xL (.of (s9 _ _ e')) (lstF_atI (by omega) (by omega)) ?_
      walk_at "*"
      rw [show ((k : Int) + 1).toNat = k + 1 by omega, show ((k : Int)).toNat = k by omega]
      refine go_sL e9 (n := k) (by rw [lstF_len]; unfold ixN; rw [if_pos (by omega), if_pos (by omega)]; rfl) ?_
      rw [lstF_set (by omega)]
      have b0 := f1 (k + 1) (by omega)
      have b1 := gd.lo i k (by omega) (by omega)
      have b2 := hr k (by omega)
      refine ⟨fun q => if q = k then min 1000 (max (f (k + 1)) (tf i k + rf k)) else f q, _, same_mut s9 hR, ?_, ?_, ?_, rfl⟩
      · rw [upd_same]
        congr 2
        exact lstF_congr fun q hq => by by_cases z : q = k <;> simp [z]
      · intro q hq
        show 0 ≤ (if q = k then _ else _) ∧ (if q = k then _ else _) ≤ _
        by_cases z : q = k
        · rw [if_pos z]; omega
        · rw [if_neg z]; exact f1 q hq
      · intro q h1 h2
        show (if q + 1 = k then _ else _) ≤ (if q = k then _ else _) ∧ _ ≤ (if q = k then _ else _)
        rw [if_neg (by omega)]
        by_cases z : q = k
        · rw [if_pos z, z]; omega
        · rw [if_neg z]; exact f2 q (by omega) h2
    · rintro σ H9 ⟨f, v, s9, e9, f1, f2, rfl⟩
      have s59 : Same H5 H9 := s7.trans s9
      have tb9 := tb.same s59
      rw [show M - (M : Int).toNat = 0 by omega] at f2
      walk_at "*"
      refine go_bmW (tyV_l (.of tb9.top)) ?_
      walk_at "*"
      refine go_slL (.of e9) (lstF_cut (by omega)) ?_
      intro b hb
      walk_at "*"
      refine go_append (by rw [upd_ne (ne_of_none tb9.top hb)]; exact tb9.top) (by rw [lstF_len]; omega) ?_
      walk_at "*"
      rw [lstF_app]
      have tb' : t ≠ b := ne_of_none tb9.top hb
      refine ⟨same_mut ((s5.trans s59).trans (same_new hb)) ht0, ?_, fun j => if j = i + 1 then b else ta j, fun j => if j = i + 1 then f else tf j, _, _, _, _, _, ⟨?_, ?_, ?_⟩, ?_, rfl⟩
      · rw [upd_ne (Ne.symm tl), upd_ne (ne_of_none (s59 _ _ el) hb)]; exact s59 _ _ el
      · rw [upd_same]
        congr 2
        exact lstF_congr fun q hq => by by_cases z : q = i + 1 <;> simp [z]
      · intro j hj
        show upd _ t _ (if j = i + 1 then b else ta j) = some (.lst (lstI M (if j = i + 1 then f else tf j)))
        by_cases z : j = i + 1
        · rw [if_pos z, if_pos z, upd_ne tb'.symm]; exact upd_same
        · rw [if_neg z, if_neg z, upd_ne (tb.ne j (by omega)), upd_ne (ne_of_none (tb9.row j (by omega)) hb)]
          exact tb9.row j (by omega)
      · intro j hj
        show (if j = i + 1 then b else ta j) ≠ t
        by_cases z : j = i + 1
        · rw [if_pos z]; exact tb'.symm
        · rw [if_neg z]; exact tb.ne j (by omega)
      · exact gd.snoc (by omega) (fun k hk => f1 k (by omega)) (fun k hk => (f2 k (by omega) (by omega)).1) (fun k hk => (f2 k (by omega) (by omega)).2)
  · rintro σ H5 ⟨s5, el, ta, tf, v6, v7, v8, v9, v10, tb, gd, rfl⟩
    walk_at "*"
    exact hq _ _ _ _ _ _ s5 tb gd

open NumText
def allIn (w z : Str) : Bool := w.cps.toList.all fun c => decide (c ∈ z.cps.toList)
theorem not_all {w z : Str} {i c : Nat} (h : w.cps.toList[i]? = some c) (n : ¬ c ∈ z.cps.toList) : allIn w z = false := by
  unfold allIn
  rw [List.all_eq_false]
  exact ⟨c, List.mem_of_getElem? h, by simpa using n⟩
theorem yes_all {w z : Str} (h : ∀ (j c : Nat), j < w.cps.toList.length → w.cps.toList[j]? = some c → c ∈ z.cps.toList) : allIn w z = true := by
  unfold allIn
  rw [List.all_eq_true]
  intro c m
  obtain ⟨j, hj, e⟩ := List.mem_iff_getElem.mp m
  exact decide_eq_true (h j c hj (by rw [← e]; exact List.getElem?_eq_getElem hj))
def badN (w : Str) : Bool := !(decide (1 ≤ (w.length : Int)) && decide ((w.length : Int) ≤ 4)) || (!allIn w "0123456789" || (Txt.startswith w "0" && !decide (w = "0")))
def valN (w : Str) : Int := ((digitsVal w.cps.toList : Nat) : Int)
def numV (w : Str) : V := if badN w = true then .non else .int (valN w)
theorem digs_ok : ∀ c ∈ (Str.ofString "0123456789").cps.toList, 48 ≤ c ∧ c ≤ 57 := by decide +kernel
theorem find_ok : ∀ c ∈ (Str.ofString "0123456789").cps.toList, Txt.find "0123456789" ⟨#[c]⟩ = ((c - 48 : Nat) : Int) := by decide +kernel
theorem all_digits {w : Str} (h : allIn w "0123456789" = true) : AllDigits w.cps.toList := fun c m => digs_ok c (by
  unfold allIn at h
  rw [List.all_eq_true] at h
  exact of_decide_eq_true (h c m))
theorem read_ok {w : Str} (h : allIn w "0123456789" = true) (h1 : 1 ≤ (w.length : Int)) (h2 : (w.length : Int) ≤ 4) : intText? w = some (valN w) :=
  intText_digits (all_digits h) (fun e => by
    have : w.length = w.cps.toList.length := (Array.length_toList ..).symm
    rw [e] at this
    simp at this
    omega) (by omega)
theorem starts0 {w : Str} {c : Nat} {cs : List Nat} (h : w.cps.toList = c :: cs) : Txt.startswith w "0" = decide (c = 48) := by
  unfold Txt.startswith
  rw [StrLaws.subAt_eq, h]
  have e : w.length = (c :: cs).length := by rw [← h]; exact (Array.length_toList ..).symm
  rw [e]
  have z : (Str.ofString "0").cps.toList = [48] := by decide +kernel
  have z1 : (Str.ofString "0").length = 1 := by decide +kernel
  rw [z, z1]
  simp [Bool.beq_eq_decide_eq]

/-! ### all_of -/
abbrev s_all_of : Stmt := top 11
abbrev N_all_of : List Str := ["word", "some", "sign"]
theorem sc_all_of : FnScope N_all_of ["word", "some"] (defScope s_all_of) := ⟨rfl, rfl, rfl, by decide +kernel, rfl, by decide +kernel, by decide +kernel⟩
def pr_all_of (K : PySem.W.Frag) : V → V → Hp → VK → XK → Prop := fun a0 a1 H Q E => ∃ w z : Str, a0 = .str w ∧ a1 = .str z ∧ Q (.bl (allIn w z)) H
abbrev sp_all_of (K : PySem.W.Frag) : Sp := Sp2 (pr_all_of K)
theorem ok_all_of {P : Program} {w : World} {K : PySem.W.Frag} {mg : Str → Option Value} {base : Heap} {f : Addr} {fd : FuncData} (F : FunD K "all_of" "all_of" (defArgs s_all_of) (defBody s_all_of) (defScope s_all_of) [] [] f fd) (T : Txt K mg)  : FnOk P w K mg base CX0 1 f fd ["word", "some"] (sp_all_of K) := by
  refine F.ok sc_all_of (fun vs H Q E h => len2 h) (fun cdv A outer s H vs Q E hr h => ?_)
  obtain ⟨a0, a1, rfl, h⟩ := h
  have hu := hu_of hr
  refine ⟨_, PSs.nox ((pss_cons (ps_for PassesOwn.never rfl (pi_X (pv 0)) (pg_name (i := 2) sc_all_of.nd rfl (by first | exact Or.inl rfl | exact Or.inr rfl)) (pss_one (ps_if (pt_cmpR (op_notInX hu) (pv 2) (pv 1) (by rfl)) (pss_one (ps_ret pe_bl)) pss_nil)))
      (pss_one (ps_ret pe_bl)))), ?_⟩
  refine go_start (σ := [some a0, some a1, none]) rfl ?_
  try dsimp only [cxOf, Cx.nox, Cx.wish, Cx.tr, Cx.suite]
  obtain ⟨w, z, rfl, rfl, hq⟩ := h
  walk_at "*"
  refine go_iS ?_
  refine ForW.str (fun i σ H' => H' = H ∧ (∀ (j c : Nat), j < i → w.cps.toList[j]? = some c → c ∈ z.cps.toList) ∧ ∃ v, σ = [some (.str w), some (.str z), v]) ⟨rfl, by omega, _, rfl⟩ ?_ ?_
  · rintro i c σ H' hi ⟨rfl, hm, v, rfl⟩
    walk_at "*"
    refine go_ninSg ?_
    walk_at "*"
    refine if2 (fun k => ?_) (fun k => ?_)
    · walk_at "*"
      exact ret_V (by rw [not_all hi (by simpa using k)]) hq
    · walk_at "*"
      refine ⟨rfl, fun j d hj hd => ?_, _, rfl⟩
      by_cases e : j = i
      · subst e
        rw [hi] at hd
        obtain rfl := Option.some.inj hd
        simpa using k
      · exact hm j d (by omega) hd
  · rintro σ H' ⟨rfl, hm, v, rfl⟩
    walk_at "*"
    exact ret_V (by rw [yes_all hm]) hq

open TL (tl)
/-- a number within bounds -/
def numO (w : Str) (lo hi : Int) : Option Int := if badN w = true then none else if valN w < lo then none else if valN w > hi then none else some (valN w)
def optV : Option Int → V
  | none => .non
  | some i => .int i
theorem numL_head {n : Nat} (h : 1 ≤ n) : ∃ c l, TL.numL n = c :: l ∧ 49 ≤ c ∧ c ≤ 57 := by
  induction n using Nat.strongRecOn with
  | _ n ih =>
    by_cases h9 : n < 10
    · exact ⟨48 + n, [], TL.numL_lt h9, by omega, by omega⟩
    · obtain ⟨c, l, e, h1, h2⟩ := ih (n / 10) (by omega) (by omega)
      exact ⟨c, l ++ [48 + n % 10], by rw [TL.numL_step (by omega), e]; rfl, h1, h2⟩
theorem numO_num {n : Nat} {lo hi : Int} (h : n ≤ 9999) (h1 : lo ≤ (n : Int)) (h2 : (n : Int) ≤ hi) : numO (Str.ofString (toString ((n : Nat) : Int))) lo hi = some (n : Int) := by
  have et := TL.tl_num n
  have hv : valN (Str.ofString (toString ((n : Nat) : Int))) = (n : Int) := by
    unfold valN
    rw [show (Str.ofString (toString ((n : Nat) : Int))).cps.toList = TL.numL n from et, TL.numL_val]
  have hl : (Str.ofString (toString ((n : Nat) : Int))).length ≤ 4 := by rw [TL.len_tl, et]; exact TL.numL_len (by decide) (by omega)
  have hl1 : 1 ≤ (Str.ofString (toString ((n : Nat) : Int))).length := by
    rw [TL.len_tl, et]
    exact List.length_pos_iff.mpr (TL.numL_ne n)
  have hd : allIn (Str.ofString (toString ((n : Nat) : Int))) "0123456789" = true := by
    unfold allIn
    rw [List.all_eq_true]
    intro c m
    have m2 : c ∈ TL.numL n := by rw [← et]; exact m
    have r := TL.numL_digits n c m2
    refine decide_eq_true ?_
    rw [show (Str.ofString "0123456789").cps.toList = [48, 49, 50, 51, 52, 53, 54, 55, 56, 57] by decide +kernel]
    simp
    omega
  have hb : badN (Str.ofString (toString ((n : Nat) : Int))) = false := by
    unfold badN
    rw [decide_eq_true (by omega), decide_eq_true (by omega), hd]
    by_cases h9 : n < 10
    · have e1 : (Str.ofString (toString ((n : Nat) : Int))) = ⟨#[48 + n]⟩ := TL.ext_tl (by rw [et, TL.numL_lt h9])
      by_cases z : n = 0
      · subst z; decide +kernel
      · rw [starts0 (c := 48 + n) (cs := []) (by rw [e1]), decide_eq_false (by omega)]; rfl
    · obtain ⟨c, l, e1, h1, h2⟩ := numL_head (n := n) (by omega)
      rw [starts0 (c := c) (cs := l) (by rw [← e1]; exact et), decide_eq_false (by omega)]; rfl
  unfold numO
  rw [hb, hv, if_neg (by decide), if_neg (by omega), if_neg (by omega)]
/-- a row: no line end, not long -/
structure RowOk (r : Str) : Prop where
  nl : 10 ∉ tl r
  len : r.length ≤ 400
/-- a pair of a number and words, laid away from f, new for N -/
def RowAt (f : Addr) (N H : Hp) (v : V) (e : Nat × List Str) : Prop := ∃ a q, (q ≠ f ∧ N q = none) ∧ v = .ref a ∧ H a = some (.tup [.int (e.1 : Nat), .ref q]) ∧ H q = some (.lst (e.2.map V.str))
theorem RowAt.same {f : Addr} {N H H' : Hp} {v : V} {e : Nat × List Str} (h : RowAt f N H v e) (s : Same H H') : RowAt f N H' v e := by
  obtain ⟨a, q, h0, h1, h2, h3⟩ := h
  exact ⟨a, q, h0, h1, s _ _ h2, s _ _ h3⟩
theorem RowAt.mut {f : Addr} {N H : Hp} {v : V} {e : Nat × List Str} {xs ys : List V} (h : RowAt f N H v e) (hf : H f = some (.lst xs)) : RowAt f N (upd H f (.lst ys)) v e := by
  obtain ⟨a, q, h0, h1, h2, h3⟩ := h
  refine ⟨a, q, h0, h1, ?_, by rw [upd_ne h0.1]; exact h3⟩
  rw [upd_ne (by rintro rfl; rw [hf] at h2; cases h2)]
  exact h2
/-- the pairs of a list -/
def RowsAt (N H : Hp) (p : Addr) (L : List (Nat × List Str)) : Prop := ∃ vs, H p = some (.lst vs) ∧ All2 (RowAt p N H) vs L
theorem RowsAt.same {p : Addr} {N H H' : Hp} {L : List (Nat × List Str)} (h : RowsAt N H p L) (s : Same H H') : RowsAt N H' p L := by
  obtain ⟨vs, h1, h2⟩ := h
  exact ⟨vs, s _ _ h1, h2.mono fun _ _ r => r.same s⟩
theorem spl_len : ∀ {l acc : List Nat}, (TL.spl [32] 0 acc l).length ≤ l.length + 1
  | [], acc => by rw [TL.spl_nil]; exact Nat.le_refl _
  | c :: l, acc => by
    by_cases h : c = 32
    · subst h
      rw [TL.spl_hit (by rfl)]
      show (TL.spl [32] 0 [] l).length + 1 ≤ _
      have := spl_len (l := l) (acc := [])
      rw [List.length_cons]; omega
    · rw [TL.spl_miss (TL.pre_of_head _ _ h)]
      have := spl_len (l := l) (acc := acc ++ [c])
      rw [List.length_cons]; omega
theorem split_len (r : Str) : (Txt.split r " ").length ≤ r.length + 1 := by
  rw [split_blank, List.length_map, TL.len_tl]
  exact spl_len
theorem spl_part_len : ∀ {l acc w : List Nat}, w ∈ TL.spl [32] 0 acc l → w.length ≤ acc.length + l.length
  | [], acc, w, h => by rw [TL.spl_nil] at h; rw [List.mem_singleton.mp h]; exact Nat.le_add_right _ _
  | c :: l, acc, w, h => by
    rw [List.length_cons]
    by_cases z : c = 32
    · subst z
      rw [TL.spl_hit (by rfl)] at h
      rcases List.mem_cons.mp h with rfl | h
      · omega
      · have := spl_part_len (l := l) (acc := []) h
        rw [List.length_nil] at this
        omega
    · rw [TL.spl_miss (TL.pre_of_head _ _ z)] at h
      have := spl_part_len h
      rw [List.length_append, List.length_singleton] at this
      omega
theorem words_len {r w : Str} (h : w ∈ rwds r) : w.length ≤ r.length := by
  obtain ⟨l, hl, rfl⟩ := List.mem_map.mp h
  have := spl_part_len (List.mem_filter.mp hl).1
  rw [TL.len_tl, TL.len_tl]
  rw [List.length_nil, Nat.zero_add] at this
  exact this

/-! ### number_in -/
abbrev s_number_in : Stmt := top 12
abbrev N_number_in : List Str := ["word"]
theorem sc_number_in : FnScope N_number_in ["word"] (defScope s_number_in) := ⟨rfl, rfl, rfl, by decide +kernel, rfl, by decide +kernel, by decide +kernel⟩
def pr_number_in (K : PySem.W.Frag) : V → Hp → VK → XK → Prop := fun a0 H Q E => ∃ w : Str, a0 = .str w ∧ w.length ≤ 600 ∧ Q (numV w) H
abbrev sp_number_in (K : PySem.W.Frag) : Sp := Sp1 (pr_number_in K)
theorem ok_number_in {P : Program} {w : World} {K : PySem.W.Frag} {mg : Str → Option Value} {base : Heap} {f : Addr} {fd : FuncData} (F : FunD K "number_in" "number_in" (defArgs s_number_in) (defBody s_number_in) (defScope s_number_in) [] [] f fd) (T : Txt K mg) (d_all_of : Dn P w K mg base CX0 1 "all_of" ["word", "some"] [] (sp_all_of K)) : FnOk P w K mg base CX0 2 f fd ["word"] (sp_number_in K) := by
  refine F.ok sc_number_in (fun vs H Q E h => len1 h) (fun cdv A outer s H vs Q E hr h => ?_)
  obtain ⟨a0, rfl, h⟩ := h
  have hu := hu_of hr
  refine ⟨_, PSs.nox ((pss_cons (ps_if (PW.pt (pw_or (pt_not (pt_chain op_le op_le pe_int (pe_callB call_lenX (by rfl) T.b_len L2.A.boot_len (pa_cons (pv 0) pa_nil)) (pe_glob (v := .int 4) rfl T.g_MOST_FIGURES.choose_spec ⟨_, rfl⟩))) (pw_or1 (pt_not (pt_truX (pe_d d_all_of (hr.mono (by decide)) rfl pass0 (pa_cons (pv 0) (pa_cons pe_str pa_nil)))))))) (pss_one (ps_ret pe_non)) pss_nil)
      (pss_cons (ps_if (PW.pt (pw_and (pt_truX (pe_bm PySem.F.plainAttrs_str PySem.F.slot_str_startswith PySem.F.type_str_startswith mt_startswith (pv 0) (pa_cons pe_str pa_nil))) (pw_and1 (pt_cmpR (op_neX hr.units) (pv 0) pe_str (nomark _))))) (pss_one (ps_ret pe_non)) pss_nil)
      (pss_one (ps_ret (pe_callTy call_intX (by rfl) T.b_int L2.A.boot_int (pa_cons (pv 0) pa_nil))))))), ?_⟩
  refine go_start (σ := [some a0]) rfl ?_
  try dsimp only [cxOf, Cx.nox, Cx.wish, Cx.tr, Cx.suite]
  obtain ⟨w, rfl, hw, hq⟩ := h
  walk_at "*"
  refine if2 (fun c1 => ?_) (fun c1 => ?_)
  · have e1 := of_decide_eq_true c1
    walk_at "*"
    refine if2 (fun c2 => ?_) (fun c2 => ?_)
    · walk_at "*"
      exact ret_V (by unfold numV; rw [if_pos (by unfold badN; rw [c1]; rw [Bool.not_eq_true'] at c2; rw [c2]; rfl)]) hq
    · walk_at "*"
      rw [Bool.not_eq_false'] at c2
      have e2 := of_decide_eq_true c2
      refine go_sp2 ⟨w, _, rfl, rfl, ?_⟩
      walk_at "*"
      refine if2 (fun c3 => ?_) (fun c3 => ?_)
      · walk_at "*"
        exact ret_V (by unfold numV; rw [if_pos (by unfold badN; rw [c3, Bool.true_or, Bool.or_true])]) hq
      · walk_at "*"
        refine ⟨w, _, rfl, rfl, ?_⟩
        walk_at "*"
        refine if2 (fun c4 => ?_) (fun c4 => ?_)
        · walk_at "*"
          replace c4 : (Txt.startswith w "0" && !decide (w = "0")) = true := by rw [dec_str] at c4; simpa using c4
          exact ret_V (by unfold numV; rw [if_pos (by unfold badN; rw [c4, Bool.or_true, Bool.or_true])]) hq
        · walk_at "*"
          replace c4 : (Txt.startswith w "0" && !decide (w = "0")) = false := by rw [dec_str] at c4; simpa using c4
          refine go_intS (read_ok (by simpa using c3) e1 e2) (by omega) ?_
          exact ret_V (by unfold numV; rw [if_neg (by unfold badN; rw [c1, c2, c3, c4]; decide)]) hq
  · walk_at "*"
    exact ret_V (by unfold numV; rw [if_pos (by unfold badN; rw [c1]; rfl)]) hq
/-! ### BadRow.__init__ -/
abbrev s_BadRow_init : Stmt := inClass (top 2) 0
abbrev N_BadRow_init : List Str := ["self", "words", "place"]
theorem sc_BadRow_init : FnScope N_BadRow_init ["self", "words", "place"] (defScope s_BadRow_init) := ⟨rfl, rfl, rfl, by decide +kernel, rfl, by decide +kernel, by decide +kernel⟩
def pr_BadRow_init (K : PySem.W.Frag) : V → V → V → Hp → VK → XK → Prop := fun a0 a1 a2 H Q E => IniW (He.ga K "BadRow") [("place", a2)] a0 H Q
abbrev sp_BadRow_init (K : PySem.W.Frag) : Sp := Sp3 (pr_BadRow_init K)
theorem ok_BadRow_init {P : Program} {w : World} {K : PySem.W.Frag} {mg : Str → Option Value} {base : Heap} {f : Addr} {fd : FuncData} (F : FunD K "__init__" "BadRow.__init__" (defArgs s_BadRow_init) (defBody s_BadRow_init) (defScope s_BadRow_init) [] [] f fd) (T : Txt K mg)  : FnOk P w K mg base CX0 1 f fd ["self", "words", "place"] (sp_BadRow_init K) := by
  refine F.ok sc_BadRow_init (fun vs H Q E h => len3 h) (fun cdv A outer s H vs Q E hr h => ?_)
  obtain ⟨a0, a1, a2, rfl, h⟩ := h
  have hu := hu_of hr
  refine ⟨_, PSs.nox ((pss_cons (ps_expr (pe_binit rfl T.c_BookError T.bi_BookError (pa_cons (pv 0) (pa_cons (pv 1) pa_nil))))
      (pss_one (ps_ost (pv 0) (pv 2))))), ?_⟩
  have nf_BadRow_place := T.nf_BadRow_place
  refine go_start (σ := [some a0, some a1, some a2]) rfl ?_
  try dsimp only [cxOf, Cx.nox, Cx.wish, Cx.tr, Cx.suite]
  obtain ⟨a, rfl, ha, hq⟩ := h
  walk_at "*"
  refine go_veIW T.oex_BadRow ha rfl ?_
  walk_at "*"
  refine go_ost1 T.oex_BadRow T.nf_BadRow_place ha fun d H1 hd k1 e1 e2 => ?_
  walk_at "*"
  exact hq d _ hd k1 e1 e2
theorem rz_BadRow_2 {K : PySem.W.Frag} {v1 v2 : V} {H1 : Hp} {Q : XK} (h : ∀ d H', H1 d = none → Same H1 H' → H' d = some (.xd [("place", v2)]) → Q (.ref (He.ga K "BadRow")) (some d) H') : MkOW (He.ga K "BadRow") (sp_BadRow_init K) [] [v1, v2] H1 Q := go_mkOW _ rfl (fun a H Q h => ⟨_, _, _, rfl, h⟩) h
/-! ### Falling.__init__ -/
abbrev s_Falling_init : Stmt := inClass (top 6) 0
abbrev N_Falling_init : List Str := ["self", "words", "place"]
theorem sc_Falling_init : FnScope N_Falling_init ["self", "words", "place"] (defScope s_Falling_init) := ⟨rfl, rfl, rfl, by decide +kernel, rfl, by decide +kernel, by decide +kernel⟩
def pr_Falling_init (K : PySem.W.Frag) : V → V → V → Hp → VK → XK → Prop := fun a0 a1 a2 H Q E => IniW (He.ga K "Falling") [("place", a2)] a0 H Q
abbrev sp_Falling_init (K : PySem.W.Frag) : Sp := Sp3 (pr_Falling_init K)
theorem ok_Falling_init {P : Program} {w : World} {K : PySem.W.Frag} {mg : Str → Option Value} {base : Heap} {f : Addr} {fd : FuncData} (F : FunD K "__init__" "Falling.__init__" (defArgs s_Falling_init) (defBody s_Falling_init) (defScope s_Falling_init) [] [] f fd) (T : Txt K mg)  : FnOk P w K mg base CX0 1 f fd ["self", "words", "place"] (sp_Falling_init K) := by
  refine F.ok sc_Falling_init (fun vs H Q E h => len3 h) (fun cdv A outer s H vs Q E hr h => ?_)
  obtain ⟨a0, a1, a2, rfl, h⟩ := h
  have hu := hu_of hr
  refine ⟨_, PSs.nox ((pss_cons (ps_expr (pe_binit rfl T.c_BookError T.bi_BookError (pa_cons (pv 0) (pa_cons (pv 1) pa_nil))))
      (pss_one (ps_ost (pv 0) (pv 2))))), ?_⟩
  have nf_Falling_place := T.nf_Falling_place
  refine go_start (σ := [some a0, some a1, some a2]) rfl ?_
  try dsimp only [cxOf, Cx.nox, Cx.wish, Cx.tr, Cx.suite]
  obtain ⟨a, rfl, ha, hq⟩ := h
  walk_at "*"
  refine go_veIW T.oex_Falling ha rfl ?_
  walk_at "*"
  refine go_ost1 T.oex_Falling T.nf_Falling_place ha fun d H1 hd k1 e1 e2 => ?_
  walk_at "*"
  exact hq d _ hd k1 e1 e2
theorem rz_Falling_2 {K : PySem.W.Frag} {v1 v2 : V} {H1 : Hp} {Q : XK} (h : ∀ d H', H1 d = none → Same H1 H' → H' d = some (.xd [("place", v2)]) → Q (.ref (He.ga K "Falling")) (some d) H') : MkOW (He.ga K "Falling") (sp_Falling_init K) [] [v1, v2] H1 Q := go_mkOW _ rfl (fun a H Q h => ⟨_, _, _, rfl, h⟩) h

abbrev Row := Addr × List Int
def tabL (xs : List Row) : List V := xs.map fun x => V.ref x.1
def rowCs (xs : List Row) : Cells := xs.map fun x => (x.1, HO.lst (x.2.map V.int))
def tabC (f : Addr) (xs : List Row) : Cells := (f, .lst (tabL xs)) :: rowCs xs
abbrev vals (xs : List Row) : List (List Int) := xs.map Prod.snd
structure TabH (H : Hp) (f : Addr) (xs : List Row) : Prop where
  f : H f = some (.lst (tabL xs))
  q : ∀ x ∈ xs, H x.1 = some (.lst (x.2.map V.int))
theorem TabH.same {H H' : Hp} {f : Addr} {xs : List Row} (h : TabH H f xs) (s : Same H H') : TabH H' f xs := ⟨s _ _ h.f, fun x m => s _ _ (h.q x m)⟩
theorem _root_.L2.A.Sta.tab {F H : Hp} {f : Addr} {xs : List Row} {R : Cells} (st : Sta F (tabC f xs ++ R) H) : TabH H f xs :=
  ⟨st.get (List.mem_append_left _ (List.mem_cons_self ..)), fun x m => st.get (List.mem_append_left _ (List.mem_cons_of_mem _ (List.mem_map.mpr ⟨x, m, rfl⟩)))⟩
def shR : List Str → Option (List Int)
  | [] => some []
  | w :: r => match numO w 0 1000, shR r with
    | some x, some xs => some (x :: xs)
    | _, _ => none
def sharesT : List Str → Option (List Int)
  | [] => none
  | a :: r => if a = "left" ∧ 1 ≤ r.length ∧ r.length ≤ 11 then shR r else none
theorem shR_snoc {xs : List Str} {w : Str} : shR (xs ++ [w]) = match shR xs, numO w 0 1000 with
    | some ys, some y => some (ys ++ [y])
    | _, _ => none := by
  induction xs with
  | nil =>
    show (match numO w 0 1000, shR [] with
      | some x, some xs => some (x :: xs)
      | _, _ => none) = _
    cases numO w 0 1000 <;> rfl
  | cons a xs ih =>
    show (match numO a 0 1000, shR (xs ++ [w]) with
      | some x, some xs => some (x :: xs)
      | _, _ => none) = (match (match numO a 0 1000, shR xs with
      | some x, some xs => some (x :: xs)
      | _, _ => none), numO w 0 1000 with
      | some ys, some y => some (ys ++ [y])
      | _, _ => none)
    rw [ih]
    cases numO a 0 1000 <;> cases shR xs <;> cases numO w 0 1000 <;> rfl
theorem shR_app {xs ys : List Str} (h : shR xs = none) : shR (xs ++ ys) = none := by
  induction xs with
  | nil => cases h
  | cons a xs ih =>
    have h : (match numO a 0 1000, shR xs with
      | some x, some xs => some (x :: xs)
      | _, _ => none) = none := h
    show (match numO a 0 1000, shR (xs ++ ys) with
      | some x, some xs => some (x :: xs)
      | _, _ => none) = none
    cases e1 : numO a 0 1000 with
    | none => rfl
    | some x =>
      cases e2 : shR xs with
      | none => rw [ih e2]
      | some z => rw [e1, e2] at h; cases h
theorem shR_len : ∀ {xs : List Str} {ys : List Int}, shR xs = some ys → ys.length = xs.length ∧ ∀ y ∈ ys, 0 ≤ y ∧ y ≤ 1000
  | [], _, h => by cases h; exact ⟨rfl, fun y m => (by cases m)⟩
  | a :: xs, ys, h => by
    have h : (match numO a 0 1000, shR xs with
      | some x, some xs => some (x :: xs)
      | _, _ => none) = some ys := h
    cases e1 : numO a 0 1000 with
    | none => rw [e1] at h; cases h
    | some x =>
      cases e2 : shR xs with
      | none => rw [e1, e2] at h; cases h
      | some z =>
        rw [e1, e2] at h
        cases h
        obtain ⟨h1, h2⟩ := shR_len e2
        refine ⟨by rw [List.length_cons, List.length_cons, h1], fun y m => ?_⟩
        rcases List.mem_cons.mp m with rfl | m
        · unfold numO at e1
          split at e1
          · cases e1
          · split at e1
            · cases e1
            · split at e1
              · cases e1
              · cases e1; omega
        · exact h2 y m
theorem num_1000 {w : Str} : numO w 0 1000 = if badN w = true then none else if valN w > 1000 then none else some (valN w) := by
  unfold numO
  have : ¬ valN w < 0 := by unfold valN; omega
  rw [if_neg this]
def badK (rows : List (List Int)) (s : List Int) (k : Nat) : Bool :=
  match rows.getLast? with
  | none => decide (0 < s.getD k 0) || (decide (0 < k) && decide (s.getD (k - 1) 0 < s.getD k 0))
  | some r => decide (s.getD k 0 < r.getD k 0) || (decide (0 < k) && decide (s.getD (k - 1) 0 < s.getD k 0))
def fallB (rows : List (List Int)) (s : List Int) : Bool := (List.range s.length).any (badK rows s)
theorem last_row {xs : List Row} (h : xs ≠ []) : ∃ x, x ∈ xs ∧ xs.getLast? = some x ∧ atI (tabL xs) (-1) = some (.ref x.1) := by
  refine ⟨xs.getLast h, List.getLast_mem h, List.getLast?_eq_some_getLast h, ?_⟩
  have l0 : 0 < xs.length := List.length_pos_iff.mpr h
  have e : ixN (tabL xs).length (-1) = some (xs.length - 1) := by
    unfold ixN tabL
    rw [List.length_map, if_neg (by omega), if_pos (by omega)]
    congr 1
    omega
  unfold L2.atI
  rw [e]
  show (tabL xs)[xs.length - 1]? = _
  unfold tabL
  rw [List.getElem?_map, List.getElem?_eq_getElem (show xs.length - 1 < xs.length by omega), List.getLast_eq_getElem]; rfl
inductive TabOut
  | ok (rows : List (List Int))
  | bad (n : Nat)
  | fall (n : Nat)
  | none_
def readTb : List (Nat × List Str) → List (List Int) → TabOut
  | [], rows => if rows = [] then .none_ else .ok rows
  | e :: r, rows => match sharesT e.2 with
    | none => .bad e.1
    | some s => if rows ≠ [] ∧ s.length ≠ (rows.headD []).length then .bad e.1 else if fallB rows s = true then .fall e.1 else readTb r (rows ++ [s])

/-! ### shares_of -/
abbrev s_shares_of : Stmt := top 16
abbrev N_shares_of : List Str := ["words", "place", "shares", "word", "number"]
theorem sc_shares_of : FnScope N_shares_of ["words", "place"] (defScope s_shares_of) := ⟨rfl, rfl, rfl, by decide +kernel, rfl, by decide +kernel, by decide +kernel⟩
def pr_shares_of (K : PySem.W.Frag) : V → V → Hp → VK → XK → Prop := fun a0 a1 H Q E => ∃ (F : Hp) (R : Cells) (q : Addr) (ws : List Str) (pl : Int), a0 = .ref q ∧ a1 = .int pl ∧ Sta F R H ∧ F q = some (.lst (ws.map V.str)) ∧ (∀ w ∈ ws, w.length ≤ 600) ∧ 1 ≤ ws.length ∧ ws.length ≤ 1000 ∧
  (∀ xs, sharesT ws = some xs → ∀ l F' H', Same F F' → Sta F' ((l, .lst (xs.map V.int)) :: R) H' → Q (.ref l) H') ∧ (sharesT ws = none → ∀ d F' H', Same F F' → F' d = some (.xd [("place", .int pl)]) → Sta F' R H' → E (.ref (He.ga K "BadRow")) (some d) H' )
abbrev sp_shares_of (K : PySem.W.Frag) : Sp := Sp2 (pr_shares_of K)
theorem ok_shares_of {P : Program} {w : World} {K : PySem.W.Frag} {mg : Str → Option Value} {base : Heap} {f : Addr} {fd : FuncData} (F : FunD K "shares_of" "shares_of" (defArgs s_shares_of) (defBody s_shares_of) (defScope s_shares_of) [] [] f fd) (T : Txt K mg) (d_number_in : Dn P w K mg base CX0 2 "number_in" ["word"] [] (sp_number_in K)) (x_BadRow_2 : XkD P w K mg base 1 (He.ga K "BadRow") "BadRow" ["self", "words", "place"] [] (sp_BadRow_init K)) : FnOk P w K mg base (L2.CX P w) 3 f fd ["words", "place"] (sp_shares_of K) := by
  refine F.ok sc_shares_of (fun vs H Q E h => len2 h) (fun cdv A outer s H vs Q E hr h => ?_)
  obtain ⟨a0, a1, rfl, h⟩ := h
  have hu := hu_of hr
  refine ⟨_, ((pss_cons (ps_if (PW.pt (pw_or (pt_cmpR (op_neX hr.units) (pe_ix (ix_X hu) (pv 0) pe_int (fun _ _ => rfl)) pe_str (nomark _)) (pw_or1 (pt_not (pt_chain op_le op_le pe_int (pe_callB call_lenX (by rfl) T.b_len L2.A.boot_len (pa_cons (pv 0) pa_nil)) (pe_op op_addX (pe_glob (v := .int 11) rfl T.g_MOST_COLUMNS.choose_spec ⟨_, rfl⟩) pe_int)))))) (pss_one (ps_raise rfl (takes_of rfl rfl rfl rfl) (pmk_x x_BadRow_2 (hr.mono (by decide)) rfl (pa_cons pe_str (pa_cons (pv 1) pa_nil))))) pss_nil)
      (pss_cons (ps_set (i := 2) sc_shares_of.nd rfl (by first | exact Or.inl rfl | exact Or.inr rfl) (pe_lst pa_nil))
      (pss_cons (ps_for (passes_of rfl) rfl (pi_X (pe_slice sl_X (pv 0) (po_some pe_int) po_none)) (pg_name (i := 3) sc_shares_of.nd rfl (by first | exact Or.inl rfl | exact Or.inr rfl)) (pss_cons (ps_set (i := 4) sc_shares_of.nd rfl (by first | exact Or.inl rfl | exact Or.inr rfl) (pe_d d_number_in (hr.mono (by decide)) rfl pass0 (pa_cons (pv 3) pa_nil)))
      (pss_cons (ps_if (PW.pt (pw_or (pt_cmpR op_isX (pv 4) pe_non (nomark _)) (pw_or1 (pt_cmpR op_gt (pv 4) (pe_glob (v := .int 1000) rfl T.g_MOST_SHARE.choose_spec ⟨_, rfl⟩) (nomark _))))) (pss_one (ps_raise rfl (takes_of rfl rfl rfl rfl) (pmk_x x_BadRow_2 (hr.mono (by decide)) rfl (pa_cons pe_str (pa_cons (pv 1) pa_nil))))) pss_nil)
      (pss_one (ps_expr (pe_bm PySem.F.plainAttrs_list PySem.F.slot_list_append PySem.F.type_list_append mt_append (pv 2) (pa_cons (pv 4) pa_nil)))))))
      (pss_one (ps_ret (pv 2))))))), ?_⟩
  refine go_start (σ := [some a0, some a1, none, none, none]) rfl ?_
  try dsimp only [cxOf, Cx.nox, Cx.wish, Cx.tr, Cx.suite]
  obtain ⟨F, R, q, ws, pl, rfl, rfl, st, hw, hl, l1, l1000, hq1, hq2⟩ := h
  rcases ws with _ | ⟨a, r⟩
  · cases l1
  rw [List.length_cons] at l1000
  have e0 : sharesT (a :: r) = if a = "left" ∧ 1 ≤ r.length ∧ r.length ≤ 11 then shR r else none := rfl
  have raise : ∀ {F' : Hp} {R' : Cells} {H' : Hp}, Same F F' → Sta F' R H' → sharesT (a :: r) = none → ∀ {st0 : St} {z : V}, True := fun _ _ _ _ _ => trivial
  walk_at "*"
  rw [dec_str]
  by_cases ha : a = "left"
  case neg =>
    refine ite_T (by simp [ha]) ?_
    walk_at "*"
    refine rz_BadRow_2 fun d H5 nd sd ed => ?_
    obtain ⟨F5, s5, e5, st5⟩ := st.newF nd sd ed
    exact hq2 (by rw [e0, if_neg fun z => ha z.1]) d F5 H5 s5 e5 st5
  refine ite_F (by simp [ha]) ?_
  walk_at "*"
  by_cases h1 : 1 ≤ r.length
  case neg =>
    refine ite_F (by simp; omega) ?_
    walk_at "*"
    refine rz_BadRow_2 fun d H5 nd sd ed => ?_
    obtain ⟨F5, s5, e5, st5⟩ := st.newF nd sd ed
    exact hq2 (by rw [e0, if_neg fun z => h1 z.2.1]) d F5 H5 s5 e5 st5
  refine ite_T (by simp; omega) ?_
  walk_at "*"
  by_cases h11 : r.length ≤ 11
  case neg =>
    refine ite_T (by simp; omega) ?_
    walk_at "*"
    refine rz_BadRow_2 fun d H5 nd sd ed => ?_
    obtain ⟨F5, s5, e5, st5⟩ := st.newF nd sd ed
    exact hq2 (by rw [e0, if_neg fun z => h11 z.2.2]) d F5 H5 s5 e5 st5
  rw [if_pos ⟨ha, h1, h11⟩] at e0
  rw [e0] at hq1 hq2
  clear raise
  refine ite_F (by simp; omega) ?_
  walk_at "*"
  refine go_newLv st rfl fun l H1 st1 => ?_
  walk_at "*"
  refine go_slL (.of (st1.of hw)) (lo := some ((1 : Nat) : Int)) (hi := none) (ys := r.map V.str) (cut_drop (by simp)) ?_
  refine go_newF st1 fun b F2 H2 s2 e2 st2 => ?_
  walk_at "*"
  refine go_iL (.of (st2.of e2)) ?_
  refine ForW.accL r V.str (fun pre σ H' => ∃ F' xs v3 v4, Same F F' ∧ F' b = some (.lst (r.map V.str)) ∧ shR pre = some xs ∧ xs.length ≤ 11 ∧ Sta F' ((l, .lst (xs.map V.int)) :: R) H' ∧ σ = [some (.ref q), some (.int pl), some (.ref l), v3, v4])
    ⟨F2, [], _, _, s2, e2, rfl, by simp, st2, rfl⟩ (fun pre σ H' ⟨F', _, _, _, s, e, _, _, st', _⟩ => .of (st'.of e)) ?_ ?_
  · rintro pre w σ H3 mw ⟨post, ep⟩ ⟨F', xs, v3, v4, s, e, hs, xl, st3, rfl⟩
    have lw := hl w (List.mem_cons_of_mem _ mw)
    have xl2 := (shR_len hs).1
    have pl2 : pre.length + 1 ≤ r.length := by rw [ep, List.length_append, List.length_cons]; omega
    have hsn := shR_snoc (xs := pre) (w := w)
    rw [hs, num_1000] at hsn
    have all : shR (pre ++ [w]) = none → shR r = none := fun h => by
      have := shR_app (ys := post) h
      rwa [List.append_assoc, List.singleton_append, ← ep] at this
    walk_at "*"
    refine go_sp1 ⟨w, rfl, lw, ?_⟩
    walk_at "*"
    by_cases hb : badN w = true
    · rw [if_pos hb] at hsn
      rw [show numV w = .non from if_pos hb]
      refine ite_T (by rfl) ?_
      walk_at "*"
      refine rz_BadRow_2 fun d H5 nd sd ed => ?_
      obtain ⟨F5, s5, e5, st5⟩ := (st3.tail).newF nd sd ed
      exact hq2 (all hsn) d F5 H5 (s.trans s5) e5 st5
    rw [if_neg hb] at hsn
    rw [show numV w = .int (valN w) from if_neg hb]
    refine ite_F (by simp) ?_
    walk_at "*"
    refine if2 (fun c => ?_) (fun c => ?_)
    · rw [if_pos (of_decide_eq_true c)] at hsn
      walk_at "*"
      refine rz_BadRow_2 fun d H5 nd sd ed => ?_
      obtain ⟨F5, s5, e5, st5⟩ := (st3.tail).newF nd sd ed
      exact hq2 (all hsn) d F5 H5 (s.trans s5) e5 st5
    · rw [if_neg (of_decide_eq_false c)] at hsn
      walk_at "*"
      exact ⟨F', xs ++ [valN w], _, _, s, e, hsn, by rw [List.length_append, List.length_singleton]; omega, by rw [List.map_append]; assumption, rfl⟩
  · rintro σ H3 ⟨F', xs, v3, v4, s, e, hs, xl, st3, rfl⟩
    walk_at "*"
    exact hq1 xs hs l F' H3 s st3
/-! ### look_falling -/
abbrev s_look_falling : Stmt := top 17
abbrev N_look_falling : List Str := ["table", "shares", "place", "k", "share"]
theorem sc_look_falling : FnScope N_look_falling ["table", "shares", "place"] (defScope s_look_falling) := ⟨rfl, rfl, rfl, by decide +kernel, rfl, by decide +kernel, by decide +kernel⟩
def pr_look_falling (K : PySem.W.Frag) : V → V → V → Hp → VK → XK → Prop := fun a0 a1 a2 H Q E => ∃ (f l : Addr) (xs : List Row) (s : List Int) (pl : Int), a0 = .ref f ∧ a1 = .ref l ∧ a2 = .int pl ∧ TabH H f xs ∧ H l = some (.lst (s.map V.int)) ∧ s.length ≤ 1000 ∧ (∀ r ∈ vals xs, r.length = s.length) ∧ (fallB (vals xs) s = false → ∀ H', Same H H' → Q .non H') ∧
  (fallB (vals xs) s = true → ∀ d H', H d = none → Same H H' → H' d = some (.xd [("place", .int pl)]) → E (.ref (He.ga K "Falling")) (some d) H')
abbrev sp_look_falling (K : PySem.W.Frag) : Sp := Sp3 (pr_look_falling K)
theorem ok_look_falling {P : Program} {w : World} {K : PySem.W.Frag} {mg : Str → Option Value} {base : Heap} {f : Addr} {fd : FuncData} (F : FunD K "look_falling" "look_falling" (defArgs s_look_falling) (defBody s_look_falling) (defScope s_look_falling) [] [] f fd) (T : Txt K mg) (x_Falling_2 : XkD P w K mg base 1 (He.ga K "Falling") "Falling" ["self", "words", "place"] [] (sp_Falling_init K)) : FnOk P w K mg base (L2.CX P w) 3 f fd ["table", "shares", "place"] (sp_look_falling K) := by
  refine F.ok sc_look_falling (fun vs H Q E h => len3 h) (fun cdv A outer s H vs Q E hr h => ?_)
  obtain ⟨a0, a1, a2, rfl, h⟩ := h
  have hu := hu_of hr
  refine ⟨_, ((pss_one (ps_for (passes_of rfl) rfl (pi_enum (by rfl) T.b_enumerate (pa_cons (pv 1) pa_nil)) (pg_tup (n := 2) rfl (pgs_cons (pg_name (i := 3) sc_look_falling.nd rfl (by first | exact Or.inl rfl | exact Or.inr rfl)) (pgs_cons (pg_name (i := 4) sc_look_falling.nd rfl (by first | exact Or.inl rfl | exact Or.inr rfl)) pgs_nil))) (pss_cons (ps_if (PW.pt (pw_and (pt_cmpR (op_eqX hr.units) (pe_callB call_lenX (by rfl) T.b_len L2.A.boot_len (pa_cons (pv 0) pa_nil)) pe_int (nomark _)) (pw_and1 (pt_cmpR op_gt (pv 4) pe_int (nomark _))))) (pss_one (ps_raise rfl (takes_of rfl rfl rfl rfl) (pmk_x x_Falling_2 (hr.mono (by decide)) rfl (pa_cons pe_str (pa_cons (pv 2) pa_nil))))) pss_nil)
      (pss_cons (ps_if (PW.pt (pw_and (pt_cmpR op_gt (pe_callB call_lenX (by rfl) T.b_len L2.A.boot_len (pa_cons (pv 0) pa_nil)) pe_int (nomark _)) (pw_and1 (pt_cmpR op_lt (pv 4) (pe_ix (ix_X hu) (pe_ix (ix_X hu) (pv 0) (pe_un un_neg pe_int) (fun _ _ => rfl)) (pv 3) (fun _ _ => rfl)) (nomark _))))) (pss_one (ps_raise rfl (takes_of rfl rfl rfl rfl) (pmk_x x_Falling_2 (hr.mono (by decide)) rfl (pa_cons pe_str (pa_cons (pv 2) pa_nil))))) pss_nil)
      (pss_one (ps_if (PW.pt (pw_and (pt_cmpR op_gt (pv 3) pe_int (nomark _)) (pw_and1 (pt_cmpR op_gt (pv 4) (pe_ix (ix_X hu) (pv 1) (pe_op op_sub (pv 3) pe_int) (fun _ _ => rfl)) (nomark _))))) (pss_one (ps_raise rfl (takes_of rfl rfl rfl rfl) (pmk_x x_Falling_2 (hr.mono (by decide)) rfl (pa_cons pe_str (pa_cons (pv 2) pa_nil))))) pss_nil))))))), ?_⟩
  refine go_start (σ := [some a0, some a1, some a2, none, none]) rfl ?_
  try dsimp only [cxOf, Cx.nox, Cx.wish, Cx.tr, Cx.suite]
  obtain ⟨f, l, xs, s, pl, rfl, rfl, rfl, ht, hl, hn, hr, hq1, hq2⟩ := h
  walk_at "*"
  refine go_enW (.of hl) ?_
  walk_at "*"
  refine ForW.it (walk_enum (xs := s.map V.int)) (fun i σ H' => ∃ v3 v4, Same H H' ∧ (List.range i).any (badK (vals xs) s) = false ∧ σ = [some (.ref f), some (.ref l), some (.int pl), v3, v4]) ⟨_, _, .refl _, rfl, rfl⟩ (fun i σ H' _ ⟨_, _, k, _⟩ => .of (k _ _ hl)) ?_ ?_
  · rintro i x σ H2 H3 hi ⟨v3, v4, k, hb, rfl⟩ ⟨T, y, u, rfl, hT, rfl, ey, eu⟩
    cases ey
    rw [List.length_map] at hi
    have eu2 : (s.map V.int)[i]? = some u := eu
    rw [List.getElem?_map, List.getElem?_eq_getElem hi] at eu2
    cases eu2
    have k3 : Same H (upd H2 T (.tup [.int (i : Nat), .int s[i]])) := k.trans (same_new hT)
    have hl3 := k3 _ _ hl
    have hf3 := k3 _ _ ht.f
    have raise : badK (vals xs) s i = true → fallB (vals xs) s = true := fun h => by
      unfold fallB
      rw [List.any_eq_true]
      exact ⟨i, List.mem_range.mpr hi, h⟩
    have sd : s.getD i 0 = s[i] := by rw [List.getD_eq_getElem?_getD, List.getElem?_eq_getElem hi]; rfl
    have tl : (tabL xs).length = xs.length := List.length_map ..
    have eT : (upd H2 T (.tup [.int (i : Nat), .int s[i]])) T = some (.tup [.int (i : Nat), .int s[i]]) := upd_same
    generalize upd H2 T (.tup [.int (i : Nat), .int s[i]]) = H3 at hl3 hf3 k3 eT ⊢
    have hrows := fun x m => k3 _ _ (ht.q x m)
    walk_at "*"
    rw [tl]
    by_cases hx : xs = []
    · subst hx
      have GL : (vals ([] : List Row)).getLast? = none := rfl
      refine if2 (fun c => ?_) (fun c => ?_)
      · have c : 0 < s[i] := by simpa using c
        walk_at "*"
        refine rz_Falling_2 fun d H5 nd sd' ed => ?_
        exact hq2 (raise (by unfold badK; rw [GL]; dsimp only; rw [sd, decide_eq_true c]; rfl)) d H5 (k3.free nd) (k3.trans sd') ed
      have c : ¬ 0 < s[i] := by simpa using c
      walk_at "*"
      refine ite_F rfl ?_
      walk_at "*"
      refine if2 (fun c3 => ?_) (fun c3 => ?_)
      · have c3 := of_decide_eq_true c3
        have hp : i - 1 < s.length := by omega
        have sp : s.getD (i - 1) 0 = s[i - 1] := by rw [List.getD_eq_getElem?_getD, List.getElem?_eq_getElem hp]; rfl
        walk_at "*"
        rw [show (i : Int) - 1 = ((i - 1 : Nat) : Int) by omega]
        refine go_xL (v := .int s[i - 1]) (.of hl3) (atI_nat (by rw [List.getElem?_map, List.getElem?_eq_getElem hp]; rfl)) ?_
        walk_at "*"
        refine if2 (fun c4 => ?_) (fun c4 => ?_)
        · have c4 := of_decide_eq_true c4
          walk_at "*"
          refine rz_Falling_2 fun d H5 nd sd' ed => ?_
          exact hq2 (raise (by unfold badK; rw [GL]; dsimp only; rw [sd, sp, decide_eq_true (by omega : 0 < i), decide_eq_true c4]; simp)) d H5 (k3.free nd) (k3.trans sd') ed
        · have c4 := of_decide_eq_false c4
          walk_at "*"
          refine ⟨_, _, k3, ?_, rfl⟩
          rw [List.range_succ, List.any_append, hb, Bool.false_or]
          show (badK _ s i || false) = false
          unfold badK
          rw [GL]; dsimp only
          rw [sd, sp, decide_eq_false (by omega), decide_eq_false c4, Bool.and_false]; rfl
      · have c3 := of_decide_eq_false c3
        walk_at "*"
        refine ⟨_, _, k3, ?_, rfl⟩
        rw [List.range_succ, List.any_append, hb, Bool.false_or]
        show (badK _ s i || false) = false
        unfold badK
        rw [GL]; dsimp only
        rw [sd, decide_eq_false (by omega), decide_eq_false (by omega : ¬ 0 < i), Bool.false_and]; rfl
    · obtain ⟨x, mx, gl, ax⟩ := last_row hx
      have GL : (vals xs).getLast? = some x.2 := by rw [List.getLast?_map, gl]; rfl
      have l0 : 0 < xs.length := List.length_pos_iff.mpr hx
      have hxr := hrows x mx
      have xl := hr x.2 (List.mem_map_of_mem mx)
      have hix : i < x.2.length := by omega
      have xd : x.2.getD i 0 = x.2[i] := by rw [List.getD_eq_getElem?_getD, List.getElem?_eq_getElem hix]; rfl
      refine ite_F (by simp [hx]) ?_
      walk_at "*"
      refine ite_T (by rw [tl]; exact decide_eq_true (by omega)) ?_
      walk_at "*"
      refine go_xL (.of hf3) ax ?_
      walk_at "*"
      refine go_xL (v := .int x.2[i]) (.of hxr) (atI_nat (by rw [List.getElem?_map, List.getElem?_eq_getElem hix]; rfl)) ?_
      walk_at "*"
      refine if2 (fun c => ?_) (fun c => ?_)
      · have c := of_decide_eq_true c
        walk_at "*"
        refine rz_Falling_2 fun d H5 nd sd' ed => ?_
        exact hq2 (raise (by unfold badK; rw [GL]; dsimp only; rw [sd, xd, decide_eq_true c]; rfl)) d H5 (k3.free nd) (k3.trans sd') ed
      have c := of_decide_eq_false c
      walk_at "*"
      refine if2 (fun c3 => ?_) (fun c3 => ?_)
      · have c3 := of_decide_eq_true c3
        have hp : i - 1 < s.length := by omega
        have sp : s.getD (i - 1) 0 = s[i - 1] := by rw [List.getD_eq_getElem?_getD, List.getElem?_eq_getElem hp]; rfl
        walk_at "*"
        rw [show (i : Int) - 1 = ((i - 1 : Nat) : Int) by omega]
        refine go_xL (v := .int s[i - 1]) (.of hl3) (atI_nat (by rw [List.getElem?_map, List.getElem?_eq_getElem hp]; rfl)) ?_
        walk_at "*"
        refine if2 (fun c4 => ?_) (fun c4 => ?_)
        · have c4 := of_decide_eq_true c4
          walk_at "*"
          refine rz_Falling_2 fun d H5 nd sd' ed => ?_
          exact hq2 (raise (by unfold badK; rw [GL]; dsimp only; rw [sd, sp, decide_eq_true (by omega : 0 < i), decide_eq_true c4]; simp)) d H5 (k3.free nd) (k3.trans sd') ed
        · have c4 := of_decide_eq_false c4
          walk_at "*"
          refine ⟨_, _, k3, ?_, rfl⟩
          rw [List.range_succ, List.any_append, hb, Bool.false_or]
          show (badK _ s i || false) = false
          unfold badK
          rw [GL]; dsimp only
          rw [sd, sp, xd, decide_eq_false c, decide_eq_false c4, Bool.and_false]; rfl
      · have c3 := of_decide_eq_false c3
        walk_at "*"
        refine ⟨_, _, k3, ?_, rfl⟩
        rw [List.range_succ, List.any_append, hb, Bool.false_or]
        show (badK _ s i || false) = false
        unfold badK
        rw [GL]; dsimp only
        rw [sd, xd, decide_eq_false c, decide_eq_false (by omega : ¬ 0 < i), Bool.false_and]; rfl
  · rintro σ H2 ⟨v3, v4, k, hb, rfl⟩
    rw [List.length_map] at hb
    walk_at "*"
    exact hq1 hb _ k

theorem readTb_bad {e : Nat × List Str} {r : List (Nat × List Str)} {t : List (List Int)} (h : sharesT e.2 = none) : readTb (e :: r) t = .bad e.1 := by
  unfold readTb; rw [h]
theorem readTb_len {e : Nat × List Str} {r : List (Nat × List Str)} {t : List (List Int)} {s : List Int} (h : sharesT e.2 = some s) (w : t ≠ [] ∧ s.length ≠ (t.headD []).length) : readTb (e :: r) t = .bad e.1 := by
  unfold readTb; rw [h]; exact if_pos w
theorem readTb_fall {e : Nat × List Str} {r : List (Nat × List Str)} {t : List (List Int)} {s : List Int} (h : sharesT e.2 = some s) (w : ¬ (t ≠ [] ∧ s.length ≠ (t.headD []).length)) (f : fallB t s = true) : readTb (e :: r) t = .fall e.1 := by
  unfold readTb; rw [h]; show (if _ then _ else _) = _; rw [if_neg w, if_pos f]
theorem readTb_go {e : Nat × List Str} {r : List (Nat × List Str)} {t : List (List Int)} {s : List Int} (h : sharesT e.2 = some s) (w : ¬ (t ≠ [] ∧ s.length ≠ (t.headD []).length)) (f : fallB t s = false) : readTb (e :: r) t = readTb r (t ++ [s]) := by
  conv => lhs; unfold readTb
  rw [h]; show (if _ then _ else _) = _; rw [if_neg w, f, if_neg (by decide)]

/-! ### read_table -/
abbrev s_read_table : Stmt := top 18
abbrev N_read_table : List Str := ["text", "table", "rows", "at", "row", "words", "shares", "word"]
theorem sc_read_table : FnScope N_read_table ["text"] (defScope s_read_table) := ⟨rfl, rfl, rfl, by decide +kernel, rfl, by decide +kernel, by decide +kernel⟩
def pr_read_table (K : PySem.W.Frag) : V → Hp → VK → XK → Prop := fun a0 H Q E => ∃ (rows : List Str), a0 = .str (Txt.join "\n" rows) ∧ (∀ r ∈ rows, RowOk r) ∧ rows.length ≤ 300 ∧
  (∀ tb, readTb (wr 1 rows) [] = .ok tb → ∀ f xs G H', Same H G → vals xs = tb → Sta G (tabC f xs) H' → Q (.ref f) H') ∧
  (∀ n, readTb (wr 1 rows) [] = .bad n → (∀ d H', Same H H' → H' d = some (.xd [("place", .int (n : Nat))]) → E (.ref (He.ga K "BadRow")) (some d) H')) ∧ (∀ n, readTb (wr 1 rows) [] = .fall n → (∀ d H', Same H H' → H' d = some (.xd [("place", .int (n : Nat))]) → E (.ref (He.ga K "Falling")) (some d) H')) ∧
  (readTb (wr 1 rows) [] = .none_ → ∀ n, n = (if rows = [] then 1 else rows.length) → (∀ d H', Same H H' → H' d = some (.xd [("place", .int (n : Nat))]) → E (.ref (He.ga K "Falling")) (some d) H'))
abbrev sp_read_table (K : PySem.W.Frag) : Sp := Sp1 (pr_read_table K)
theorem ok_read_table {P : Program} {w : World} {K : PySem.W.Frag} {mg : Str → Option Value} {base : Heap} {f : Addr} {fd : FuncData} (F : FunD K "read_table" "read_table" (defArgs s_read_table) (defBody s_read_table) (defScope s_read_table) [] [] f fd) (T : Txt K mg) (d_shares_of : Dn P w K mg base (L2.CX P w) 3 "shares_of" ["words", "place"] [] (sp_shares_of K)) (d_look_falling : Dn P w K mg base (L2.CX P w) 3 "look_falling" ["table", "shares", "place"] [] (sp_look_falling K)) (x_BadRow_2 : XkD P w K mg base 1 (He.ga K "BadRow") "BadRow" ["self", "words", "place"] [] (sp_BadRow_init K)) (x_Falling_2 : XkD P w K mg base 1 (He.ga K "Falling") "Falling" ["self", "words", "place"] [] (sp_Falling_init K)) : FnOk P w K mg base (L2.CX P w) 4 f fd ["text"] (sp_read_table K) := by
  refine F.ok sc_read_table (fun vs H Q E h => len1 h) (fun cdv A outer s H vs Q E hr h => ?_)
  obtain ⟨a0, rfl, h⟩ := h
  have hu := hu_of hr
  refine ⟨_, ((pss_cons (ps_set (i := 1) sc_read_table.nd rfl (by first | exact Or.inl rfl | exact Or.inr rfl) (pe_lst pa_nil))
      (pss_cons (ps_set (i := 2) sc_read_table.nd rfl (by first | exact Or.inl rfl | exact Or.inr rfl) (pe_bm PySem.F.plainAttrs_str PySem.F.slot_str_split PySem.F.type_str_split mt_split (pv 0) (pa_cons pe_str pa_nil)))
      (pss_cons (ps_for (passes_of rfl) rfl (pi_enum (by rfl) T.b_enumerate (pa_cons (pv 2) pa_nil)) (pg_tup (n := 2) rfl (pgs_cons (pg_name (i := 3) sc_read_table.nd rfl (by first | exact Or.inl rfl | exact Or.inr rfl)) (pgs_cons (pg_name (i := 4) sc_read_table.nd rfl (by first | exact Or.inl rfl | exact Or.inr rfl)) pgs_nil))) (pss_cons (ps_setLc (i := 5) (own := [("word", 7)]) rfl sc_read_table.nd rfl rfl (sw_true rfl rfl rfl (by decide +kernel)) (pi_X (pe_bm PySem.F.plainAttrs_str PySem.F.slot_str_split PySem.F.type_str_split mt_split (pv 4) (pa_cons pe_str pa_nil))) (blkOk_by (N := N_read_table) (sc := defScope s_read_table) (own := [("word", 7)]) (by decide +kernel)) (fun _ _ _ _ _ => (pg_name (i := 7) sc_read_table.nd rfl (by first | exact Or.inl rfl | exact Or.inr rfl))) (fun _ _ _ _ _ => pts_one (pt_cmpR (op_neK (K := K) rfl hr.units) (pv 7) pe_str (nomark _))) (fun _ _ _ _ _ => (pv 7)))
      (pss_one (ps_if (pt_cmpR op_gt (pe_callB call_lenX (by rfl) T.b_len L2.A.boot_len (pa_cons (pv 5) pa_nil)) pe_int (nomark _)) (pss_cons (ps_set (i := 6) sc_read_table.nd rfl (by first | exact Or.inl rfl | exact Or.inr rfl) (pe_dS d_shares_of (hr.mono (by decide)) rfl (fun σ => passAt (takes_of rfl rfl rfl rfl) σ) (pa_cons (pv 5) (pa_cons (pe_op op_addX (pv 3) pe_int) pa_nil))))
      (pss_cut (ps_if (PW.pt (pw_and (pt_cmpR op_gt (pe_callB call_lenX (by rfl) T.b_len L2.A.boot_len (pa_cons (pv 1) pa_nil)) pe_int (nomark _)) (pw_and1 (pt_cmpR (op_neX hr.units) (pe_callB call_lenX (by rfl) T.b_len L2.A.boot_len (pa_cons (pv 6) pa_nil)) (pe_callB call_lenX (by rfl) T.b_len L2.A.boot_len (pa_cons (pe_ix (ix_X hu) (pv 1) pe_int (fun _ _ => rfl)) pa_nil)) (nomark _))))) (pss_one (ps_raise rfl (takes_of rfl rfl rfl rfl) (pmk_x x_BadRow_2 (hr.mono (by decide)) rfl (pa_cons pe_str (pa_cons (pe_op op_addX (pv 3) pe_int) pa_nil))))) pss_nil)
      (pss_cons (ps_expr (pe_dS d_look_falling (hr.mono (by decide)) rfl (fun σ => passAt (takes_of rfl rfl rfl rfl) σ) (pa_cons (pv 1) (pa_cons (pv 6) (pa_cons (pe_op op_addX (pv 3) pe_int) pa_nil)))))
      (pss_one (ps_expr (pe_bm PySem.F.plainAttrs_list PySem.F.slot_list_append PySem.F.type_list_append mt_append (pv 1) (pa_cons (pv 6) pa_nil))))))) pss_nil))))
      (pss_cons (ps_if (pt_cmpR (op_eqX hr.units) (pe_callB call_lenX (by rfl) T.b_len L2.A.boot_len (pa_cons (pv 1) pa_nil)) pe_int (nomark _)) (pss_one (ps_raise rfl (takes_of rfl rfl rfl rfl) (pmk_x x_Falling_2 (hr.mono (by decide)) rfl (pa_cons pe_str (pa_cons (pe_callB call_lenX (by rfl) T.b_len L2.A.boot_len (pa_cons (pv 2) pa_nil)) pa_nil))))) pss_nil)
      (pss_one (ps_ret (pv 1)))))))), ?_⟩
  refine go_start (σ := [some a0, none, none, none, none, none, none, none]) rfl ?_
  try dsimp only [cxOf, Cx.nox, Cx.wish, Cx.tr, Cx.suite]
  obtain ⟨rows, rfl, hr, hn, hq1, hq2, hq3, hq4⟩ := h
  have st0 : Sta H [] H := .nil
  walk_at "*"
  refine go_newLv st0 rfl fun f H1 st1 => ?_
  walk_at "*"
  have hl : (Txt.join "\n" rows).length ≤ 1000000 := by
    have := text_len (rows := rows) (L := 400) fun r m => (hr r m).len
    omega
  refine go_split2 (by decide) hl ?_
  refine go_newF st1 fun l F2 H2 s2 e2 st2 => ?_
  have ew := wr_join fun r m => (hr r m).nl
  rw [rows_join fun r m => (hr r m).nl] at e2 ew
  have hR : ∀ r ∈ (if rows = [] then [("" : Str)] else rows), RowOk r := by
    intro r m
    split at m
    · rw [List.mem_singleton.mp m]; exact ⟨by decide +kernel, by decide +kernel⟩
    · exact hr r m
  have hRn : (if rows = [] then [("" : Str)] else rows).length ≤ 300 := by
    split
    · decide
    · exact hn
  have hRc : (if rows = [] then 1 else rows.length) = (if rows = [] then [("" : Str)] else rows).length := by split <;> rfl
  rw [← ew] at hq1 hq2 hq3 hq4
  rw [hRc] at hq4
  generalize (if rows = [] then [("" : Str)] else rows) = Rs at e2 hR hRn hq1 hq2 hq3 hq4
  walk_at "*"
  refine go_enW (.of (st2.of e2)) ?_
  walk_at "*"
  refine ForW.it (walk_enum (xs := Rs.map V.str)) (fun i σ H' => ∃ xs F' v3 v4 v5 v6 v7, Same F2 F' ∧ (∀ x ∈ vals xs, x.length = ((vals xs).headD []).length) ∧ xs.length ≤ i ∧ Sta F' (tabC f xs) H' ∧ readTb (wr 1 Rs) [] = readTb (wr (1 + i) (Rs.drop i)) (vals xs) ∧ σ = [some (.str (Txt.join "\n" rows)), some (.ref f), some (.ref l), v3, v4, v5, v6, v7])
    ⟨[], F2, _, _, _, _, _, .refl _, fun x m => (by cases m), Nat.le_refl _, st2, rfl, rfl⟩ (fun i σ H' _ ⟨_, _, _, _, _, _, _, k, _, _, st, _⟩ => .of (st.of (k _ _ e2))) ?_ ?_
  · rintro i x σ H3 H4 hi ⟨xs, F', v3, v4, v5, v6, v7, k, hle, xl, st3, rx, rfl⟩ ⟨T, y, u, rfl, hT, rfl, ey, eu⟩
    cases ey
    rw [List.length_map] at hi
    have eu2 : (Rs.map V.str)[i]? = some u := eu
    rw [List.getElem?_map, List.getElem?_eq_getElem hi] at eu2
    cases eu2
    have ro := hR _ (List.getElem_mem hi)
    rw [List.drop_eq_getElem_cons hi] at rx
    generalize Rs[i] = r at ro rx hT ⊢
    have sT : Same H3 (upd H3 T (.tup [.int (i : Nat), .str r])) := same_new hT
    have eT : (upd H3 T (.tup [.int (i : Nat), .str r])) T = some (.tup [.int (i : Nat), .str r]) := upd_same
    have st4 := st3.same sT
    generalize upd H3 T (.tup [.int (i : Nat), .str r]) = H4 at st4 eT
    clear st3
    walk_at "*"
    refine go_split2 (by decide) (by have := ro.len; omega) ?_
    refine go_newF st4 fun sp F5 H5 s5 e5 st5 => ?_
    walk_at "*"
    refine go_iL (.of (st5.of e5)) ?_
    refine LcW.accL (Txt.split r " ") V.str (fun pre => (pre.filter fun w : Str => !decide (w = "")).map V.str) (by have := split_len r; have := ro.len; omega) st5 (fun F' H' s' st' => .of (st'.of (s' _ _ e5))) rfl ?_ ?_
    · rintro A pre w F6 H6 mw s6 st6 yes no hy hn
      refine go_name rfl ⟨rfl, ?_⟩
      walk_at "*"
      refine if2 (fun c => ?_) (fun c => ?_)
      · have c := nd_false c
        walk_at "*"
        refine hy _ _ _ ?_ (.refl _) st6
        rw [List.filter_append, List.map_append, List.filter_cons, if_pos (by simpa using c)]; rfl
      · have c := nd_true c
        refine hn _ _ ?_ (.refl _) st6
        rw [List.filter_append, List.filter_cons, if_neg (by simpa using c)]; simp
    rintro A F6 H6 s6 st6
    rw [split_words] at st6
    obtain ⟨F7, s7, e7, st7⟩ := st6.freeze .rfl
    have sF := s5.trans (s6.trans s7)
    have sHF : Same H H6 := s2.trans (k.trans (sF.trans st7.fz))
    have wl : (∀ w ∈ rwds r, w.length ≤ 600) ∧ (rwds r).length ≤ 1000 := by
      refine ⟨fun w m => ?_, ?_⟩
      · have := words_len m
        have := ro.len
        omega
      · unfold rwds
        rw [List.length_map]
        have h1 := List.length_filter_le (fun w => !w.isEmpty) (TL.spl [32] 0 [] (tl r))
        have h2 := spl_len (l := tl r) (acc := [])
        have h3 := ro.len
        rw [TL.len_tl] at h3
        unfold L2.A.wl
        omega
    have ewr : wr (1 + i) (r :: Rs.drop (i + 1)) = if rwds r = [] then wr (1 + (i + 1)) (Rs.drop (i + 1)) else (1 + i, rwds r) :: wr (1 + (i + 1)) (Rs.drop (i + 1)) := rfl
    rw [ewr] at rx
    walk_at "*"
    rw [List.length_map]
    refine if2 (fun c0 => ?_) (fun c0 => ?_)
    · have c0 := of_decide_eq_true c0
      rw [if_neg (by intro z; rw [z] at c0; simp at c0)] at rx
      walk_at "*"
      refine go_sp2 ⟨F7, tabC f xs, A, rwds r, _, rfl, rfl, st7, e7, wl.1, by omega, wl.2, fun sh hs ls F8 H8 s8 st8 => ?_, fun hs d F8 H8 s8 e8 st8 => ?_⟩
      · have sH8 : Same H H8 := s2.trans (k.trans (sF.trans (s8.trans st8.fz)))
        have thx : TabH H8 f xs := ⟨st8.get (by unfold tabC; walk_at "mem"), fun x m => st8.get (List.mem_cons_of_mem _ (List.mem_cons_of_mem _ (List.mem_map.mpr ⟨x, m, rfl⟩)))⟩
        have hf8 := thx.f
        have hls := st8.get (p := ls) (o := .lst (sh.map V.int)) List.mem_cons_self
        have tl : (tabL xs).length = xs.length := List.length_map ..
        have shl := (show sh.length ≤ 11 by
          have e := hs
          unfold sharesT at e
          split at e
          · cases e
          · split at e
            · rename_i c; rw [(shR_len e).1]; exact c.2.2
            · cases e)
        have place : ((1 + i : Nat) : Int) = (i : Int) + 1 := by omega
        have raiseB : readTb (wr 1 Rs) [] = .bad (1 + i) → ∀ {H9 d}, Same H8 H9 → H9 d = some (.xd [("place", .int ((i : Int) + 1))]) → E (.ref (He.ga K "BadRow")) (some d) H9 := fun e {H9 d} s9 e9 => hq2 _ e d H9 (sH8.trans s9) (by rw [place]; exact e9)
        have raiseF : readTb (wr 1 Rs) [] = .fall (1 + i) → ∀ {H9 d}, Same H8 H9 → H9 d = some (.xd [("place", .int ((i : Int) + 1))]) → E (.ref (He.ga K "Falling")) (some d) H9 := fun e {H9 d} s9 e9 => hq3 _ e d H9 (sH8.trans s9) (by rw [place]; exact e9)
        have vn : vals xs = [] ↔ xs = [] := by simp [vals]
        walk_at "*"
        refine go_cut (fun σ' H' => H' = H8 ∧ ¬ (vals xs ≠ [] ∧ sh.length ≠ ((vals xs).headD []).length) ∧ σ' = [some (.str (Txt.join "\n" rows)), some (.ref f), some (.ref l), some (.int i), some (.str r), some (.ref A), some (.ref ls), v7]) ?_ ?_
        · walk_at "*"
          rw [tl]
          rcases xs with _ | ⟨x0, r0⟩
          · refine ite_F rfl ?_
            walk_at "*"
            exact ⟨rfl, fun z => z.1 rfl, rfl⟩
          have hx0 := thx.q x0 (by simp)
          refine ite_T (by simp) ?_
          walk_at "*"
          rw [dec_int, List.length_map, List.length_map]
          refine if2 (fun c => ?_) (fun c => ?_)
          · have c := nd_false c
            walk_at "*"
            refine rz_BadRow_2 fun d H9 nd s9 e9 => ?_
            exact raiseB (rx.trans (readTb_len (e := (1 + i, rwds r)) hs ⟨by simp [vals], fun z => c (by rw [z]; rfl)⟩)) s9 e9
          · have c := nd_true c
            walk_at "*"
            refine ⟨rfl, fun z => z.2 ?_, rfl⟩
            show sh.length = x0.2.length
            omega
        rintro σ' H9 ⟨rfl, cl, rfl⟩
        have eqlen : ∀ y ∈ vals xs, y.length = sh.length := fun y m => by
          have := hle y m
          have ne : vals xs ≠ [] := by intro z; rw [z] at m; cases m
          by_cases z : sh.length = ((vals xs).headD []).length
          · omega
          · exact absurd ⟨ne, z⟩ cl
        walk_at "*"
        refine go_sp3 ⟨f, ls, xs, sh, _, rfl, rfl, rfl, thx, hls, by omega, eqlen, fun hf H10 s10 => ?_, fun hf d H10 nd s10 e10 => ?_⟩
        · have st10 : Sta F8 ((ls, .lst (sh.map V.int)) :: (f, .lst (tabL xs)) :: rowCs xs) H10 := st8.same s10
          clear hf8 thx hls
          walk_at "*"
          rename_i st11
          refine ⟨xs ++ [(ls, sh)], F8, _, _, _, _, _, k.trans (sF.trans s8), fun y m => ?_, by rw [List.length_append, List.length_singleton]; omega, ?_, ?_, rfl⟩
          · have hd : ((vals (xs ++ [(ls, sh)])).headD []).length = sh.length := by
              cases xs with
              | nil => rfl
              | cons x0 r0 => exact eqlen _ (by simp [vals])
            rw [hd]
            simp only [vals, List.map_append, List.mem_append, List.map_cons, List.map_nil, List.mem_singleton] at m
            rcases m with m | rfl
            · exact eqlen y m
            · rfl
          · have e1 : tabC f (xs ++ [(ls, sh)]) = (f, .lst (tabL xs ++ [.ref ls])) :: (rowCs xs ++ [(ls, .lst (sh.map V.int))]) := by simp [tabC, tabL, rowCs]
            rw [e1]
            exact st11.perm (.cons _ (List.perm_append_comm (l₁ := [(ls, HO.lst (sh.map V.int))])))
          · rw [rx.trans (readTb_go (e := (1 + i, rwds r)) hs cl hf), show 1 + (i + 1) = 1 + i + 1 by omega]
            simp [vals]
        · exact raiseF (rx.trans (readTb_fall (e := (1 + i, rwds r)) hs cl hf)) s10 e10
      · have sH8 : Same H H8 := s2.trans (k.trans (sF.trans (s8.trans st8.fz)))
        exact hq2 (1 + i) (rx.trans (readTb_bad hs)) d H8 sH8 (by rw [show ((1 + i : Nat) : Int) = (i : Int) + 1 by omega]; exact st8.of e8)
    · have c0 := of_decide_eq_false c0
      rw [if_pos (List.length_eq_zero_iff.mp (by omega))] at rx
      walk_at "*"
      exact ⟨xs, F7, _, _, _, _, _, k.trans sF, hle, by omega, st7, rx, rfl⟩
  · rintro σ H3 ⟨xs, F', v3, v4, v5, v6, v7, k, hle, xl, st3, rx, rfl⟩
    rw [List.length_map, List.drop_length] at rx
    have rx2 := rx.trans (show readTb [] (vals xs) = (if vals xs = [] then .none_ else .ok (vals xs)) by unfold readTb; rfl)
    have sH3 : Same H H3 := s2.trans (k.trans st3.fz)
    have e2' := st3.of (k _ _ e2)
    have st4 : Sta F' ((f, .lst (tabL xs)) :: rowCs xs) H3 := st3
    have tl : (tabL xs).length = xs.length := List.length_map ..
    have vn : vals xs = [] ↔ xs = [] := by simp [vals]
    walk_at "*"
    rw [tl, dec_int]
    refine if2 (fun c => ?_) (fun c => ?_)
    · have c := of_decide_eq_true c
      rw [if_pos (vn.mpr (List.length_eq_zero_iff.mp (by omega)))] at rx2
      walk_at "*"
      refine rz_Falling_2 fun d H9 nd s9 e9 => ?_
      exact hq4 rx2 _ rfl d H9 (sH3.trans s9) (by rw [e9, List.length_map])
    · have c := of_decide_eq_false c
      rw [if_neg (fun z => c (by rw [vn.mp z]; rfl))] at rx2
      walk_at "*"
      exact hq1 _ rx2 f xs F' H3 (s2.trans k) rfl st3

/-- a word that may stand in a row -/
structure WordOk (w : Str) : Prop where
  sp : 32 ∉ tl w
  nl : 10 ∉ tl w
  len : w.length ≤ 20
abbrev nzS (ws : List Str) : List Str := ws.filter fun w : Str => !decide (w = ("" : Str))
/-- a row under way -/
structure RowP (z : Str) (ws : List Str) : Prop where
  words : rwds z = nzS ws
  nl : 10 ∉ tl z
theorem RowP.blank {z : Str} {ws : List Str} (h : RowP z ws) (n : Int) : RowP (z ++ Txt.mul " " n) ws := by
  refine ⟨?_, ?_⟩
  · rw [← h.words]
    unfold rwds
    rw [TL.tl_append, tl_blanks, wl_rep]
  · rw [TL.tl_append, tl_blanks, List.mem_append]
    rintro (m | m)
    · exact h.nl m
    · exact absurd (List.eq_of_mem_replicate m) (by decide)
theorem RowP.word {z w : Str} {ws : List Str} (h : RowP z ws) (e : EndB (tl z)) (k : WordOk w) : RowP (z ++ w) (ws ++ [w]) := by
  refine ⟨?_, ?_⟩
  · show rwds (z ++ w) = List.filter _ (ws ++ [w])
    rw [List.filter_append]
    show _ = nzS ws ++ _
    rw [← h.words]
    unfold rwds
    rw [TL.tl_append, wl_snoc e k.sp, List.map_append, List.filter_cons, str_ne]
    congr 1
    cases ht : tl w with
    | nil => rfl
    | cons c l =>
      show [(⟨(c :: l).toArray⟩ : Str)] = [w]
      rw [← ht, TL.mk_tl]
  · rw [TL.tl_append, List.mem_append]
    rintro (m | m)
    · exact h.nl m
    · exact k.nl m
theorem row0 (n : Int) : RowP (Txt.mul " " n) [] := by
  refine ⟨?_, ?_⟩
  · unfold rwds
    have := wl_rep (l := []) n.toNat
    rw [List.nil_append] at this
    rw [tl_blanks, this]; rfl
  · rw [tl_blanks]
    intro m
    exact absurd (List.eq_of_mem_replicate m) (by decide)
theorem end0 (n : Int) : EndB (tl (Txt.mul " " n)) := by
  rw [tl_blanks]
  have := EndB.rep (l := []) (.inl rfl) n.toNat
  rwa [List.nil_append] at this
theorem end1 {z : Str} {n : Int} (h : 1 ≤ n) : EndB (tl (z ++ Txt.mul " " n)) := by
  rw [TL.tl_append, tl_blanks]
  exact EndB.rep1 (by omega)
theorem blanks_len (n : Int) : (Txt.mul " " n).length = n.toNat := by rw [TL.len_tl, tl_blanks, List.length_replicate]

abbrev strI (x : Int) : Str := Str.ofString (toString x)
theorem strI_len {n : Nat} (h : n ≤ 9999) : (strI (n : Int)).length ≤ 4 := by rw [TL.len_tl, show tl (strI (n : Int)) = TL.numL n from TL.tl_num n]; exact TL.numL_len (by decide) (by omega)
theorem strI_log {n : Nat} (h : n ≤ 9999) : ((n : Int)).natAbs.log2 < 1920 := by
  show n.log2 < 1920
  by_cases z : n = 0
  · subst z; decide
  · have : n.log2 < 17 := (Nat.log2_lt z).mpr (by omega)
    omega
theorem strI_sp {n c : Nat} (h : c ∈ tl (strI (n : Int))) : 48 ≤ c ∧ c ≤ 57 := by
  rw [show tl (strI (n : Int)) = TL.numL n from TL.tl_num n] at h
  have := TL.numL_digits n c h
  omega
theorem strI_word {n : Nat} (h : n ≤ 9999) : WordOk (strI (n : Int)) := ⟨fun m => by have := strI_sp m; omega, fun m => by have := strI_sp m; omega, Nat.le_trans (strI_len h) (by decide)⟩
theorem strI_ne {n : Nat} : tl (strI (n : Int)) ≠ [] := by rw [show tl (strI (n : Int)) = TL.numL n from TL.tl_num n]; exact TL.numL_ne n


def lineTb (r : List Int) : List Str := Str.ofString "left" :: r.map strI
def rowsTb (tb : List (List Int)) : List Str := tb.map fun r => Txt.join " " (lineTb r)
/-- rows of a table -/
structure TbOk (tb : List (List Int)) : Prop where
  n : tb.length ≤ 100
  m : ∀ r ∈ tb, r.length ≤ 11
  v : ∀ r ∈ tb, ∀ x ∈ r, ∃ n : Nat, x = (n : Int) ∧ n ≤ 1000
theorem line_word {r : List Int} (h : ∀ x ∈ r, ∃ n : Nat, x = (n : Int) ∧ n ≤ 1000) : ∀ w ∈ lineTb r, WordOk w ∧ tl w ≠ [] := fun w m => by
  rcases List.mem_cons.mp m with rfl | m
  · exact ⟨⟨by decide +kernel, by decide +kernel, by decide +kernel⟩, by decide +kernel⟩
  · obtain ⟨x, mx, rfl⟩ := List.mem_map.mp m
    obtain ⟨n, rfl, hn⟩ := h x mx
    exact ⟨strI_word (by omega), strI_ne⟩
theorem line_sum {r : List Int} (h : ∀ x ∈ r, ∃ n : Nat, x = (n : Int) ∧ n ≤ 1000) (hl : r.length ≤ 11) : ((lineTb r).map (·.length)).sum + (lineTb r).length * (Str.ofString " ").length ≤ 300 := by
  have := join_len (rows := lineTb r) (L := 20) fun w m => (line_word h w m).1.len
  have e : (lineTb r).length = r.length + 1 := by simp [lineTb]
  rw [show (Str.ofString " ").length = 1 by decide +kernel]
  omega
theorem join_le {a : Str} {ys : List Str} : (Txt.join a ys).length ≤ (ys.map (·.length)).sum + ys.length * a.length := by
  rw [TL.join_eq, TL.len_tl, TL.tl_join]
  induction ys with
  | nil => exact Nat.zero_le _
  | cons r rs ih =>
    cases rs with
    | nil =>
      show (tl r).length ≤ _
      rw [List.map_cons, List.sum_cons, TL.len_tl]; omega
    | cons q rs =>
      show (tl r ++ (tl a ++ TL.joinL (tl a) ((q :: rs).map tl))).length ≤ _
      have ih : (TL.joinL (tl a) (tl q :: rs.map tl)).length ≤ ((q :: rs).map (fun x => x.length)).sum + (q :: rs).length * a.length := ih
      have e1 : (r :: q :: rs).length * a.length = (q :: rs).length * a.length + a.length := Nat.succ_mul _ _
      have e2 : ((r :: q :: rs).map (fun x => x.length)).sum = r.length + ((q :: rs).map (fun x => x.length)).sum := rfl
      have e3 := TL.len_tl r
      have e4 := TL.len_tl a
      show (tl r ++ (tl a ++ TL.joinL (tl a) (tl q :: rs.map tl))).length ≤ ((r :: q :: rs).map (fun x => x.length)).sum + (r :: q :: rs).length * a.length
      rw [List.length_append, List.length_append, e1, e2]
      omega


theorem nzS_all {ws : List Str} (h : ∀ w ∈ ws, tl w ≠ []) : nzS ws = ws := by
  refine List.filter_eq_self.mpr fun w m => ?_
  show (!decide (w = ("" : Str))) = true
  rw [str_ne]
  cases q : tl w with
  | nil => exact absurd q (h w m)
  | cons a b => rfl
def dRow (r : List Int) : PyData := .list ((r.map V.int).map dV)
theorem TbOk.okv {tb : List (List Int)} (h : TbOk tb) {r : List Int} (m : r ∈ tb) : (r.map V.int).all okV = true := by
  rw [List.all_eq_true]
  intro v mv
  obtain ⟨y, my, rfl⟩ := List.mem_map.mp mv
  obtain ⟨n, rfl, hn⟩ := h.v r m y my
  rfl
theorem dp_tab {K : PySem.W.Frag} {H : Hp} {f : Addr} {xs : List Row} (h : TabH H f xs) (ok : TbOk (vals xs)) : Dp K H (.ref f) (.list ((vals xs).map dRow)) := by
  refine .lst (.of h.f) ?_
  have hq := h.q
  have hok : ∀ x ∈ xs, (x.2.map V.int).all okV = true := fun x m => ok.okv (List.mem_map_of_mem m)
  clear ok h
  induction xs with
  | nil => exact .nil
  | cons x r ih => exact .cons (.lst (.of (hq x (List.mem_cons_self ..))) (DpAll.flat (okV_all (hok x (List.mem_cons_self ..))))) (ih (fun y m => hq y (List.mem_cons_of_mem _ m)) fun y m => hok y (List.mem_cons_of_mem _ m))
theorem tab_shape {tb : List (List Int)} (ok : TbOk tb) : (PyData.list (tb.map dRow)).canLay0 = true ∧ (PyData.list (tb.map dRow)).depth ≤ 64 := by
  refine ⟨?_, ?_⟩
  · show PyData.canLayAll0 _ = true
    refine canAll_map fun e m => ?_
    show PyData.canLayAll0 _ = true
    exact layAll_flat (ok.okv m)
  · have : PyData.depthAll (tb.map dRow) ≤ 1 := depthAll_map fun e m => by
      have : PyData.depthAll ((e.map V.int).map dV) = 0 := depthAll_flat
      show (PyData.list ((e.map V.int).map dV)).depth ≤ 1
      simp only [PyData.depth, this]; omega
    simp only [PyData.depth]; omega


theorem joinL_snoc {s y : List Nat} : ∀ {xs : List (List Nat)}, xs ≠ [] → TL.joinL s (xs ++ [y]) = TL.joinL s xs ++ (s ++ y)
  | [], h => absurd rfl h
  | [x], _ => rfl
  | x :: z :: r, _ => by
    show x ++ (s ++ TL.joinL s ((z :: r) ++ [y])) = (x ++ (s ++ TL.joinL s (z :: r))) ++ (s ++ y)
    rw [joinL_snoc (xs := z :: r) (by simp)]
    simp only [List.append_assoc]
theorem join_snoc {a w : Str} {ws : List Str} (h : ws ≠ []) : Txt.join a (ws ++ [w]) = Txt.join a ws ++ a ++ w := by
  apply TL.ext_tl
  rw [TL.join_eq, TL.tl_join, List.map_append, List.map_cons, List.map_nil, joinL_snoc (by simp [h]), TL.tl_append, TL.tl_append, TL.join_eq, TL.tl_join, List.append_assoc]
theorem join_rowP : ∀ (n : Nat) (ws : List Str), ws.length = n + 1 → (∀ w ∈ ws, WordOk w) → RowP (Txt.join (" " : Str) ws) ws
  | 0, ws, hl, h => by
    obtain ⟨w, rfl⟩ := List.length_eq_one_iff.mp hl
    have := (row0 0).word (end0 0) (h w (by simp))
    rw [List.nil_append] at this
    have e : Txt.mul " " 0 ++ w = Txt.join (" " : Str) [w] := by
      apply TL.ext_tl
      rw [TL.tl_append, TL.join_eq, TL.tl_join, tl_blanks]; rfl
    rw [← e]; exact this
  | n + 1, ws, hl, h => by
    have ne : ws ≠ [] := by rintro rfl; cases hl
    have ew := List.dropLast_concat_getLast ne
    generalize ws.dropLast = xs at ew
    generalize ws.getLast ne = w at ew
    subst ew
    rw [List.length_append, List.length_singleton] at hl
    have xn : xs ≠ [] := by rintro rfl; cases hl
    have ih := join_rowP n xs (by omega) fun v m => h v (List.mem_append_left _ m)
    have := (ih.blank 1).word (end1 (by omega)) (h w (by simp))
    rw [join_snoc xn]
    have e : Txt.mul " " 1 = (" " : Str) := by apply TL.ext_tl; rw [tl_blanks]; rfl
    rw [e] at this
    exact this
theorem shR_strI : ∀ {r : List Int}, (∀ x ∈ r, ∃ n : Nat, x = (n : Int) ∧ n ≤ 1000) → shR (r.map strI) = some r
  | [], _ => rfl
  | x :: r, h => by
    obtain ⟨n, rfl, hn⟩ := h x (List.mem_cons_self ..)
    have e1 : numO (strI (n : Int)) 0 1000 = some (n : Int) := numO_num (by omega) (by omega) (by omega)
    have e2 := shR_strI (r := r) fun y m => h y (List.mem_cons_of_mem _ m)
    show (match numO (strI (n : Int)) 0 1000, shR (r.map strI) with
      | some x, some xs => some (x :: xs)
      | _, _ => none) = _
    rw [e1, e2]
theorem shares_line {r : List Int} (h : ∀ x ∈ r, ∃ n : Nat, x = (n : Int) ∧ n ≤ 1000) (h1 : 1 ≤ r.length) (h2 : r.length ≤ 11) : sharesT (lineTb r) = some r := by
  show (if Str.ofString "left" = "left" ∧ 1 ≤ (r.map strI).length ∧ (r.map strI).length ≤ 11 then shR (r.map strI) else none) = some r
  rw [List.length_map, if_pos ⟨rfl, h1, h2⟩, shR_strI h]
abbrev rowT (m : Nat) (tf : Nat → Nat → Int) (i : Nat) : List Int := (List.range m).map (tf i)
abbrev tbT (n m : Nat) (tf : Nat → Nat → Int) : List (List Int) := (List.range n).map (rowT m tf)
theorem rowT_len {m : Nat} {tf : Nat → Nat → Int} {i : Nat} : (rowT m tf i).length = m := by simp [rowT]
theorem rowT_at {m : Nat} {tf : Nat → Nat → Int} {i k : Nat} (h : k < m) : (rowT m tf i).getD k 0 = tf i k := by
  rw [List.getD_eq_getElem?_getD, List.getElem?_map, List.getElem?_range h]; rfl
theorem good_val {n m : Nat} {tf : Nat → Nat → Int} (g : Good n m tf) {i : Nat} (hi : i < n) : ∀ x ∈ rowT m tf i, ∃ k : Nat, x = (k : Int) ∧ k ≤ 1000 := fun x mx => by
  obtain ⟨k, mk, rfl⟩ := List.mem_map.mp mx
  have := g.lo i k hi (List.mem_range.mp mk)
  exact ⟨(tf i k).toNat, by omega, by omega⟩
theorem good_fall {n m : Nat} {tf : Nat → Nat → Int} (g : Good n m tf) {i : Nat} (hi : i < n) : fallB (tbT i m tf) (rowT m tf i) = false := by
  unfold fallB
  rw [List.any_eq_false]
  intro k mk hb
  rw [rowT_len] at mk
  have hk := List.mem_range.mp mk
  have second : ¬ (0 < k ∧ (rowT m tf i).getD (k - 1) 0 < (rowT m tf i).getD k 0) := by
    rintro ⟨h0, h1⟩
    rw [rowT_at hk, rowT_at (by omega)] at h1
    have := g.fall i (k - 1) hi (by omega)
    rw [show k - 1 + 1 = k by omega] at this
    omega
  cases i with
  | zero =>
    have : badK (tbT 0 m tf) (rowT m tf 0) k = (decide (0 < (rowT m tf 0).getD k 0) || (decide (0 < k) && decide ((rowT m tf 0).getD (k - 1) 0 < (rowT m tf 0).getD k 0))) := rfl
    rw [this, Bool.or_eq_true, Bool.and_eq_true, decide_eq_true_eq, decide_eq_true_eq, decide_eq_true_eq] at hb
    rcases hb with hb | hb
    · rw [rowT_at hk, g.zero k hk] at hb; omega
    · exact second hb
  | succ j =>
    have gl : (tbT (j + 1) m tf).getLast? = some (rowT m tf j) := by
      unfold tbT
      rw [List.range_succ, List.map_append]
      exact List.getLast?_concat
    unfold badK at hb
    rw [gl] at hb
    dsimp only at hb
    rw [Bool.or_eq_true, Bool.and_eq_true, decide_eq_true_eq, decide_eq_true_eq, decide_eq_true_eq] at hb
    rcases hb with hb | hb
    · rw [rowT_at hk, rowT_at hk] at hb
      have := g.rise j k hi hk
      omega
    · exact second hb
theorem good_read {n m : Nat} {tf : Nat → Nat → Int} (g : Good n m tf) : ∀ (k i : Nat) (ls : List (Nat × List Str)), i + k = n → ls.map Prod.snd = (List.range' i k).map (fun i => lineTb (rowT m tf i)) → readTb ls (tbT i m tf) = .ok (tbT n m tf)
  | 0, i, ls, e, h => by
    have h0 : ls = [] := by cases ls with
      | nil => rfl
      | cons a r => cases h
    subst h0
    obtain rfl : i = n := by omega
    unfold readTb
    rw [if_neg]
    have := g.n0
    intro z
    have := congrArg List.length z
    rw [List.length_map, List.length_range] at this
    simp at this
    omega
  | k + 1, i, ls, e, h => by
    cases ls with
    | nil => rw [List.range'_succ] at h; cases h
    | cons a r =>
      rw [List.range'_succ, List.map_cons, List.map_cons] at h
      injection h with h1 h2
      have hi : i < n := by omega
      have hs : sharesT a.2 = some (rowT m tf i) := by rw [h1]; exact shares_line (good_val g hi) (by rw [rowT_len]; exact g.m0) (by rw [rowT_len]; exact g.m1)
      rw [readTb_go hs ?_ (good_fall g hi)]
      · have e2 : tbT i m tf ++ [rowT m tf i] = tbT (i + 1) m tf := by unfold tbT; rw [List.range_succ, List.map_append]; rfl
        rw [e2]
        exact good_read g k (i + 1) r (by omega) h2
      · rintro ⟨z1, z2⟩
        refine z2 ?_
        rw [rowT_len]
        cases i with
        | zero => exact absurd rfl z1
        | succ j =>
          have : (tbT (j + 1) m tf).headD [] = rowT m tf 0 := by unfold tbT; rw [List.range_succ_eq_map]; rfl
          rw [this, rowT_len]
theorem tab_rows {H : Hp} {t : Addr} {n m : Nat} {ta : Nat → Addr} {tf : Nat → Nat → Int} (tb : Tab H t n m ta tf) (g : Good n m tf) : ∃ xs : List Row, TabH H t xs ∧ TbOk (vals xs) ∧ ∀ ls : List (Nat × List Str), ls.map Prod.snd = (vals xs).map lineTb → readTb ls [] = .ok (vals xs) := by
  have ev : vals ((List.range n).map fun i => (ta i, rowT m tf i)) = tbT n m tf := by simp [vals, tbT]
  refine ⟨(List.range n).map fun i => (ta i, rowT m tf i), ⟨?_, fun x mx => ?_⟩, ?_, fun ls h => ?_⟩
  · have := tb.top
    unfold lstF at this
    rw [this]; simp [tabL]
  · obtain ⟨i, mi, rfl⟩ := List.mem_map.mp mx
    have := tb.row i (List.mem_range.mp mi)
    rw [this]; simp [lstF, rowT]
  · rw [ev]
    refine ⟨by simp [tbT]; have := g.n1; omega, fun r mr => ?_, fun r mr => ?_⟩
    · obtain ⟨i, mi, rfl⟩ := List.mem_map.mp mr
      rw [rowT_len]; exact g.m1
    · obtain ⟨i, mi, rfl⟩ := List.mem_map.mp mr
      exact good_val g (List.mem_range.mp mi)
  · rw [ev] at h ⊢
    refine good_read g n 0 ls (by omega) ?_
    rw [h, ← List.range_eq_range']
    simp [tbT]


theorem eqv_nil {tb : List (List Int)} : PyData.eqv (.list (tb.map dRow)) (.list []) = decide (tb = []) := by
  cases tb <;> rfl
def badK1 (rows : List (List Int)) (s : List Int) (k : Nat) : Bool :=
  match rows.getLast? with
  | none => decide (0 < s.getD k 0)
  | some r => decide (s.getD k 0 < r.getD k 0)
theorem badK_eq {rows : List (List Int)} {s : List Int} {k : Nat} : badK rows s k = (badK1 rows s k || (decide (0 < k) && decide (s.getD (k - 1) 0 < s.getD k 0))) := by
  unfold badK badK1
  cases rows.getLast? <;> rfl
theorem shape_nil : SeqAt.shaped (.list []) = true := rfl

/-! ### _law_fault -/
abbrev s__law_fault : Stmt := top 31
abbrev N__law_fault : List Str := ["_law_table_here", "_law_shares", "_law_k"]
theorem sc__law_fault : FnScope N__law_fault ["_law_table_here", "_law_shares"] (defScope s__law_fault) := ⟨rfl, rfl, rfl, by decide +kernel, rfl, by decide +kernel, by decide +kernel⟩
def pr__law_fault (K : PySem.W.Frag) : V → V → Hp → VK → XK → Prop := fun a0 a1 H Q E => ∃ (f l : Addr) (xs : List Row) (s : List Int), a0 = .ref f ∧ a1 = .ref l ∧ TabH H f xs ∧ TbOk (vals xs) ∧ H l = some (.lst (s.map V.int)) ∧ s.length ≤ 1000 ∧ (∀ r ∈ vals xs, r.length = s.length) ∧ ∀ H', Same H H' → Q (.bl (fallB (vals xs) s)) H' 
abbrev sp__law_fault (K : PySem.W.Frag) : Sp := Sp2 (pr__law_fault K)
theorem ok__law_fault {P : Program} {w : World} {K : PySem.W.Frag} {mg : Str → Option Value} {base : Heap} {f : Addr} {fd : FuncData} (F : FunD K "_law_fault" "_law_fault" (defArgs s__law_fault) (defBody s__law_fault) (defScope s__law_fault) [] [] f fd) (T : Txt K mg)  : FnOk P w K mg base CX0 1 f fd ["_law_table_here", "_law_shares"] (sp__law_fault K) := by
  refine F.ok sc__law_fault (fun vs H Q E h => len2 h) (fun cdv A outer s H vs Q E hr h => ?_)
  obtain ⟨a0, a1, rfl, h⟩ := h
  have hu := hu_of hr
  refine ⟨_, PSs.nox ((pss_cons (ps_for PassesOwn.never rfl (pi_range1 rfl T.b_range (pa_cons (pe_callB call_lenX (by rfl) T.b_len L2.A.boot_len (pa_cons (pv 1) pa_nil)) pa_nil)) (pg_name (i := 2) sc__law_fault.nd rfl (by first | exact Or.inl rfl | exact Or.inr rfl)) (pss_cut (ps_if (PW.pt (pw_or (PW.pt (pw_and (pt_cmpR (op_eqX hr.units) (pv 0) (pe_lst pa_nil) (nomark _)) (pw_and1 (pt_cmpR op_gt (pe_ix (ix_X hu) (pv 1) (pv 2) (fun _ _ => rfl)) pe_int (nomark _))))) (pw_or1 (PW.pt (pw_and (pt_cmpR (op_neX hr.units) (pv 0) (pe_lst pa_nil) (nomark _)) (pw_and1 (pt_cmpR op_lt (pe_ix (ix_X hu) (pv 1) (pv 2) (fun _ _ => rfl)) (pe_ix (ix_X hu) (pe_ix (ix_X hu) (pv 0) (pe_un un_neg pe_int) (fun _ _ => rfl)) (pv 2) (fun _ _ => rfl)) (nomark _)))))))) (pss_one (ps_ret pe_bl)) pss_nil)
      (pss_one (ps_if (PW.pt (pw_and (pt_cmpR op_gt (pv 2) pe_int (nomark _)) (pw_and1 (pt_cmpR op_gt (pe_ix (ix_X hu) (pv 1) (pv 2) (fun _ _ => rfl)) (pe_ix (ix_X hu) (pv 1) (pe_op op_sub (pv 2) pe_int) (fun _ _ => rfl)) (nomark _))))) (pss_one (ps_ret pe_bl)) pss_nil))))
      (pss_one (ps_ret pe_bl)))), ?_⟩
  refine go_start (σ := [some a0, some a1, none]) rfl ?_
  try dsimp only [cxOf, Cx.nox, Cx.wish, Cx.tr, Cx.suite]
  obtain ⟨f, l, xs, s, rfl, rfl, ht, ok, hl, hn, hr, hq⟩ := h
  have st0 : Sta H [] H := .nil
  walk_at "*"
  rw [List.length_map]
  refine go_rn1 (by omega) ?_
  rw [show ((s.length : Int)).toNat = s.length from rfl]
  have sh := shaped_of (tab_shape ok).1 (tab_shape ok).2
  have vn : vals xs = [] ↔ xs = [] := by simp [vals]
  refine ForW.range (fun i σ H' => ∃ v2 F', Same H F' ∧ Sta F' [] H' ∧ (List.range i).any (badK (vals xs) s) = false ∧ σ = [some (.ref f), some (.ref l), v2]) ⟨_, H, .refl _, st0, rfl, rfl⟩ ?_ ?_
  · rintro i σ H2 hi ⟨v2, F2, s2, st2, hb, rfl⟩
    have sd : s.getD i 0 = s[i] := by rw [List.getD_eq_getElem?_getD, List.getElem?_eq_getElem hi]; rfl
    have raise : badK (vals xs) s i = true → fallB (vals xs) s = true := fun h => by
      unfold fallB
      rw [List.any_eq_true]
      exact ⟨i, List.mem_range.mpr hi, h⟩
    rw [Int.zero_add]
    walk_at "*"
    refine go_cut (fun σ' H' => ∃ F', Same H F' ∧ Sta F' [] H' ∧ badK1 (vals xs) s i = false ∧ σ' = [some (.ref f), some (.ref l), some (.int i)]) ?_ ?_
    · walk_at "*"
      refine go_newF st2 fun b F3 H3 s3 e3 st3 => ?_
      have hl3 := st3.of ((s2.trans s3) _ _ hl)
      have ht3 := (ht.same (s2.trans s3)).same st3.fz
      walk_at "*"
      refine go_eqD (dp_tab ht3 ok) (.lst (.of (st3.of e3)) .nil) sh shape_nil ?_
      rw [eqv_nil]
      walk_at "*"
      by_cases hx : xs = []
      · subst hx
        have G1 : badK1 (vals []) s i = decide (0 < s[i]) := by rw [← sd]; rfl
        refine ite_T (decide_eq_true rfl) ?_
        walk_at "*"
        refine go_xL (v := .int s[i]) (.of hl3) (atI_nat (by rw [List.getElem?_map, List.getElem?_eq_getElem hi]; rfl)) ?_
        walk_at "*"
        refine if2 (fun c => ?_) (fun c => ?_)
        · walk_at "*"
          exact ret_V (by rw [raise (by rw [badK_eq, G1, c]; rfl)]) (hq _ (s2.trans (s3.trans st3.fz)))
        · walk_at "*"
          refine go_newF st3 fun b4 F4 H4 s4 e4 st4 => ?_
          walk_at "*"
          refine go_neD (dp_tab ((ht.same (s2.trans (s3.trans s4))).same st4.fz) ok) (.lst (.of (st4.of e4)) .nil) sh shape_nil ?_
          rw [eqv_nil]
          walk_at "*"
          refine ite_F rfl ?_
          walk_at "*"
          exact ⟨F4, s2.trans (s3.trans s4), st4, by rw [G1]; exact c, rfl⟩
      · obtain ⟨x, mx, gl, ax⟩ := last_row hx
        have GL : (vals xs).getLast? = some x.2 := by rw [List.getLast?_map, gl]; rfl
        have xl := hr x.2 (List.mem_map_of_mem mx)
        have hix : i < x.2.length := by omega
        have xd : x.2.getD i 0 = x.2[i] := by rw [List.getD_eq_getElem?_getD, List.getElem?_eq_getElem hix]; rfl
        have G1 : badK1 (vals xs) s i = decide (s[i] < x.2[i]) := by unfold badK1; rw [GL]; dsimp only; rw [sd, xd]
        refine ite_F (decide_eq_false fun z => hx (vn.mp z)) ?_
        walk_at "*"
        refine go_newF st3 fun b4 F4 H4 s4 e4 st4 => ?_
        have ht4 := (ht.same (s2.trans (s3.trans s4))).same st4.fz
        have hl4 := st4.of ((s2.trans (s3.trans s4)) _ _ hl)
        have htf := ht4.f
        walk_at "*"
        refine go_neD (dp_tab ht4 ok) (.lst (.of (st4.of e4)) .nil) sh shape_nil ?_
        rw [eqv_nil]
        walk_at "*"
        refine ite_T (by rw [decide_eq_false fun z => hx (vn.mp z)]; rfl) ?_
        walk_at "*"
        refine go_xL (v := .int s[i]) (.of hl4) (atI_nat (by rw [List.getElem?_map, List.getElem?_eq_getElem hi]; rfl)) ?_
        walk_at "*"
        refine go_xL (.of htf) ax ?_
        walk_at "*"
        refine go_xL (v := .int x.2[i]) (.of (ht4.q x mx)) (atI_nat (by rw [List.getElem?_map, List.getElem?_eq_getElem hix]; rfl)) ?_
        walk_at "*"
        refine if2 (fun c => ?_) (fun c => ?_)
        · walk_at "*"
          exact ret_V (by rw [raise (by rw [badK_eq, G1, c]; rfl)]) (hq _ (s2.trans (s3.trans (s4.trans st4.fz))))
        · walk_at "*"
          exact ⟨F4, s2.trans (s3.trans s4), st4, by rw [G1]; exact c, rfl⟩
    rintro σ' H4 ⟨F4, s4, st4, c1, rfl⟩
    have hl4 := st4.of (s4 _ _ hl)
    have step : (decide (0 < i) && decide (s.getD (i - 1) 0 < s.getD i 0)) = false → (List.range (i + 1)).any (badK (vals xs) s) = false := fun h => by
      rw [List.range_succ, List.any_append, hb, Bool.false_or]
      show (badK _ s i || false) = false
      rw [badK_eq, c1, h]; rfl
    clear st2
    walk_at "*"
    refine if2 (fun c3 => ?_) (fun c3 => ?_)
    · have c3 := of_decide_eq_true c3
      have hp : i - 1 < s.length := by omega
      have sp : s.getD (i - 1) 0 = s[i - 1] := by rw [List.getD_eq_getElem?_getD, List.getElem?_eq_getElem hp]; rfl
      walk_at "*"
      refine go_xL (v := .int s[i]) (.of hl4) (atI_nat (by rw [List.getElem?_map, List.getElem?_eq_getElem hi]; rfl)) ?_
      walk_at "*"
      rw [show (i : Int) - 1 = ((i - 1 : Nat) : Int) by omega]
      refine go_xL (v := .int s[i - 1]) (.of hl4) (atI_nat (by rw [List.getElem?_map, List.getElem?_eq_getElem hp]; rfl)) ?_
      walk_at "*"
      refine if2 (fun c4 => ?_) (fun c4 => ?_)
      · have c4 := of_decide_eq_true c4
        walk_at "*"
        exact ret_V (by rw [raise (by rw [badK_eq, c1, sd, sp, decide_eq_true (by omega : 0 < i), decide_eq_true c4]; rfl)]) (hq _ (s4.trans st4.fz))
      · have c4 := of_decide_eq_false c4
        walk_at "*"
        exact ⟨_, F4, s4, st4, step (by rw [sd, sp, decide_eq_false c4, Bool.and_false]), rfl⟩
    · have c3 := of_decide_eq_false c3
      walk_at "*"
      exact ⟨_, F4, s4, st4, step (by rw [decide_eq_false (by omega : ¬ 0 < i), Bool.false_and]), rfl⟩
  · rintro σ H2 ⟨v2, F2, s2, st2, hb, rfl⟩
    walk_at "*"
    exact ret_V (by rw [show fallB (vals xs) s = false from hb]) (hq _ (s2.trans st2.fz))

theorem one0 {c : Nat} : ((⟨#[c]⟩ : Str) = "0") ↔ c = 48 := by
  have e : (Str.ofString "0") = ⟨#[48]⟩ := by decide +kernel
  rw [e]
  constructor
  · intro h
    have := congrArg (fun z : Str => z.cps.toList) h
    simpa using this
  · rintro rfl; rfl

/-! ### _law_number -/
abbrev s__law_number : Stmt := top 30
abbrev N__law_number : List Str := ["_law_word", "_law_sign"]
theorem sc__law_number : FnScope N__law_number ["_law_word"] (defScope s__law_number) := ⟨rfl, rfl, rfl, by decide +kernel, rfl, by decide +kernel, by decide +kernel⟩
def pr__law_number (K : PySem.W.Frag) : V → Hp → VK → XK → Prop := fun a0 H Q E => ∃ w : Str, a0 = .str w ∧ w.length ≤ 600 ∧ ∀ H', Same H H' → Q (optV (numO w 0 1000)) H' 
abbrev sp__law_number (K : PySem.W.Frag) : Sp := Sp1 (pr__law_number K)
theorem ok__law_number {P : Program} {w : World} {K : PySem.W.Frag} {mg : Str → Option Value} {base : Heap} {f : Addr} {fd : FuncData} (F : FunD K "_law_number" "_law_number" (defArgs s__law_number) (defBody s__law_number) (defScope s__law_number) [] [] f fd) (T : Txt K mg)  : FnOk P w K mg base CX0 1 f fd ["_law_word"] (sp__law_number K) := by
  refine F.ok sc__law_number (fun vs H Q E h => len1 h) (fun cdv A outer s H vs Q E hr h => ?_)
  obtain ⟨a0, rfl, h⟩ := h
  have hu := hu_of hr
  refine ⟨_, PSs.nox ((pss_cons (ps_if (PW.pt (pw_or (pt_cmpR (op_eqX hr.units) (pv 0) pe_str (nomark _)) (pw_or (pt_cmpR op_gt (pe_callB call_lenX (by rfl) T.b_len L2.A.boot_len (pa_cons (pv 0) pa_nil)) pe_int (nomark _)) (pw_or1 (pt_not (pt_truX (pe_callB (cr_all rfl) (by rfl) T.b_all L2.A.boot_all (pa_cons (pe_lc (own := [("_law_sign", 1)]) rfl sc__law_number.nd (pi_X (pv 0)) (blkOk_by (N := N__law_number) (sc := defScope s__law_number) (own := [("_law_sign", 1)]) (by decide +kernel)) (fun _ _ _ _ _ => (pg_name (i := 1) sc__law_number.nd rfl (by first | exact Or.inl rfl | exact Or.inr rfl))) (fun _ _ _ _ _ => pts_nil) (fun _ _ _ _ _ => (pe_cmpR (op_inK (K := K) rfl hu) (pv 1) pe_str (by rfl)))) pa_nil)))))))) (pss_one (ps_ret pe_non)) pss_nil)
      (pss_cons (ps_if (PW.pt (pw_or (PW.pt (pw_and (pt_cmpR (op_eqX hr.units) (pe_ix (ix_X hu) (pv 0) pe_int (fun _ _ => rfl)) pe_str (nomark _)) (pw_and1 (pt_cmpR (op_neX hr.units) (pv 0) pe_str (nomark _))))) (pw_or1 (pt_cmpR op_gt (pe_callTy call_intX (by rfl) T.b_int L2.A.boot_int (pa_cons (pv 0) pa_nil)) pe_int (nomark _))))) (pss_one (ps_ret pe_non)) pss_nil)
      (pss_one (ps_ret (pe_callTy call_intX (by rfl) T.b_int L2.A.boot_int (pa_cons (pv 0) pa_nil))))))), ?_⟩
  refine go_start (σ := [some a0, none]) rfl ?_
  try dsimp only [cxOf, Cx.nox, Cx.wish, Cx.tr, Cx.suite]
  obtain ⟨w, rfl, hw, hq⟩ := h
  rw [num_1000] at hq
  have hl : w.length = w.cps.toList.length := (Array.length_toList ..).symm
  walk_at "*"
  rw [dec_str]
  refine if2 (fun c1 => ?_) (fun c1 => ?_)
  · have c1 := of_decide_eq_true c1
    subst c1
    walk_at "*"
    exact ret_V (by rw [if_pos (by decide +kernel)]; rfl) (hq _ (.refl _))
  have c1 := of_decide_eq_false c1
  have l1 : 1 ≤ w.length := by
    rcases Nat.eq_zero_or_pos w.length with h | h
    · exact absurd (TL.ext_tl (by rw [show TL.tl w = [] from List.eq_nil_of_length_eq_zero (by rw [← TL.len_tl]; exact h)]; decide +kernel)) c1
    · exact h
  walk_at "*"
  refine if2 (fun c2 => ?_) (fun c2 => ?_)
  · have c2 := of_decide_eq_true c2
    walk_at "*"
    exact ret_V (by rw [if_pos (by unfold badN; rw [decide_eq_false (show ¬ (w.length : Int) ≤ 4 by omega), Bool.and_false]; rfl)]; rfl) (hq _ (.refl _))
  have c2 := of_decide_eq_false c2
  walk_at "*"
  refine go_iS ?_
  refine LcW.it walk_str (fun D i ys H' => Same H H' ∧ ys = (((w.cps.toList.take i).map fun c => decide (c ∈ (Str.ofString "0123456789").cps.toList)).map V.bl)) (by rw [← Array.length_toList]; omega) (fun D hD => ⟨same_new hD, rfl⟩) (fun _ _ _ _ _ _ _ _ => trivial) ?_ ?_
  · rintro D i x ys H4 H5 hD hi hl' e ⟨s, rfl⟩ ⟨rfl, c, ec, rfl⟩ yes no hy hn
    have ec : w.cps.toList[i]? = some c := by simpa using ec
    refine go_name rfl ⟨rfl, ?_⟩
    walk_at "*"
    refine go_inSg ?_
    walk_at "*"
    exact hy _ _ e ⟨same_mut s hD, by rw [List.take_add_one, ec, List.map_append, List.map_append]; rfl⟩
  rintro D ys H4 hD e _ ⟨s4, rfl⟩
  rw [show w.cps.size = w.cps.toList.length by simp, List.take_length] at e
  walk_at "*"
  refine go_all (.of e) ?_
  have ea : ((w.cps.toList.map fun c => decide (c ∈ (Str.ofString "0123456789").cps.toList)).all id) = allIn w "0123456789" := by rw [List.all_map]; rfl
  rw [ea]
  have d1 : decide (1 ≤ (w.length : Int)) = true := decide_eq_true (by omega)
  have d2 : decide ((w.length : Int) ≤ 4) = true := decide_eq_true (by omega)
  walk_at "*"
  refine if2 (fun c3 => ?_) (fun c3 => ?_)
  · walk_at "*"
    exact ret_V (by rw [if_pos (by unfold badN; rw [c3, Bool.true_or, Bool.or_true])]; rfl) (hq _ s4)
  have c3 : allIn w "0123456789" = true := by simpa using c3
  obtain ⟨c, cs, ec⟩ : ∃ c cs, w.cps.toList = c :: cs := by
    cases h : w.cps.toList with
    | nil => rw [h] at hl; simp at hl; omega
    | cons c cs => exact ⟨c, cs, rfl⟩
  have st := starts0 ec
  walk_at "*"
  refine go_xS (szl (by omega)) (show atI w.cps.toList 0 = some c by rw [ec]; simp [atI, ixN]) ?_
  walk_at "*"
  have e0 : (decide ((⟨#[c]⟩ : Str) = "0") && !decide (w = "0")) = (Txt.startswith w "0" && !decide (w = "0")) := by
    rw [st]
    congr 1
    rw [decide_eq_decide]
    exact one0
  have eb : badN w = (Txt.startswith w "0" && !decide (w = "0")) := by unfold badN; rw [d1, d2, c3]; simp
  rw [← e0] at eb
  refine if2 (fun c4 => ?_) (fun c4 => ?_)
  · replace c4 : badN w = true := by rw [eb]; simpa using c4
    walk_at "*"
    exact ret_V (by rw [if_pos c4]; rfl) (hq _ s4)
  replace c4 : badN w = false := by rw [eb]; simpa using c4
  rw [c4] at hq
  walk_at "*"
  refine go_intS (read_ok c3 (by omega) (by omega)) (by omega) ?_
  walk_at "*"
  refine if2 (fun c5 => ?_) (fun c5 => ?_)
  · have c5 := of_decide_eq_true c5
    walk_at "*"
    exact ret_V (by rw [if_neg (by decide), if_pos c5]; rfl) (hq _ s4)
  · have c5 := of_decide_eq_false c5
    walk_at "*"
    refine go_intS (read_ok c3 (by omega) (by omega)) (by omega) ?_
    exact ret_V (by rw [if_neg (by decide), if_neg c5]; rfl) (hq _ s4)

theorem flat_rep {x : V} : ∀ {n : Nat}, (List.replicate n [x]).flatten = List.replicate n x
  | 0 => rfl
  | n + 1 => by rw [List.replicate_succ, List.flatten_cons, flat_rep, List.replicate_succ]; rfl
theorem go_repF {H : Hp} {Q : VK} {l : Addr} {k : Int} {xs ys : List V} (hl : H l = some (.lst xs)) (h1 : 0 ≤ k ∧ k ≤ 100000) (z : xs.length * k.toNat ≤ 100000) (e : (List.replicate k.toNat xs).flatten = ys) (h : NewO (.lst ys) H Q) : rMulX (.ref l) (.int k) H Q :=
  .inr (.inl ⟨l, k, xs, rfl, rfl, hl, by omega, by omega, szl z, by rw [e]; exact h⟩)
abbrev Pt := Int × Int × Int
abbrev potS (p : Addr) (x : Pt) : Addr × HO := (p, .lst [.int x.1, .int x.2.1, .int x.2.2])
def PotOk (x : Pt) (n : Int) : Prop := 0 ≤ x.2.1 ∧ x.2.1 ≤ n
theorem PotOk.le {x : Pt} {n m : Int} (h : PotOk x n) (k : n ≤ m) : PotOk x m := ⟨h.1, Int.le_trans h.2 k⟩
theorem _root_.L2.A.Sta.pot {F H H' : Hp} {p : Addr} {n : Int} (s : Same H H') (hp : H p = none) (h : Pot H' p n) : ∃ x : Pt, PotOk x n ∧ Sta H [potS p x] H' := by
  obtain ⟨a, c, f, e, r⟩ := h
  exact ⟨(a, c, f), r, (Sta.nil (H := H)).newL hp s e rfl⟩
theorem go_takeS {K : PySem.W.Frag} {F H : Hp} {L R : Cells} {p : Addr} {x : Pt} {n m : Int} {Q : VK} {E : XK} (st : Sta F L H) (pm : L.Perm (potS p x :: R)) (ok : PotOk x n) (hn : n ≤ 9000) (h1 : 1 ≤ m) (h2 : m < 1073741824)
    (h : ∀ r y H', 0 ≤ r → r < m → PotOk y (n + 1) → Sta F (potS p y :: R) H' → Q (.int r) H') : Sp2 (pr__law_take K) ([.ref p, .int m] ++ []) H Q E := by
  refine go_sp2 ⟨p, n, m, rfl, rfl, ⟨_, _, _, (st.perm pm).get (.head _), ok⟩, hn, h1, h2, fun r H' r0 r1 k dr => ?_⟩
  obtain ⟨a, c, f, e, q⟩ := dr
  exact h r (a, c, f) H' r0 r1 q (Sta.kp1 (st.perm pm) k e rfl)


structure GW (k : Nat) (w : Str) : Prop where
  sp : 32 ∉ tl w
  nl : 10 ∉ tl w
  ne : tl w ≠ []
  len : w.length ≤ k
  ok : ∀ c ∈ tl w, c < 1114112
theorem GW.le {j k : Nat} {w : Str} (h : GW j w) (l : j ≤ k) : GW k w := ⟨h.sp, h.nl, h.ne, Nat.le_trans h.len l, h.ok⟩
theorem GW.okV {k : Nat} {w : Str} (h : GW k w) : okV (.str w) = true := by
  show (Array.all _ _ : Bool) = true
  rw [Array.all_eq_true]
  intro i hi
  exact decide_eq_true (h.ok w.cps[i] (by simp [tl]))
theorem okV_gw {k : Nat} {ws : List Str} (h : ∀ w ∈ ws, GW k w) : (ws.map V.str).all L2.A.okV = true := by
  rw [List.all_eq_true]
  intro v m
  obtain ⟨w, mw, rfl⟩ := List.mem_map.mp m
  exact (h w mw).okV
theorem GW.app {j k : Nat} {a b : Str} (h : GW j a) (h2 : GW k b) : GW (j + k) (a ++ b) := by
  refine ⟨?_, ?_, ?_, ?_, fun c m => ?_⟩
  · rw [TL.tl_append, List.mem_append]; exact fun z => z.elim h.sp h2.sp
  · rw [TL.tl_append, List.mem_append]; exact fun z => z.elim h.nl h2.nl
  · rw [TL.tl_append]; intro z; exact h.ne (List.append_eq_nil_iff.mp z).1
  · rw [TL.len_tl, TL.tl_append, List.length_append, ← TL.len_tl, ← TL.len_tl]; have := h.len; have := h2.len; omega
  · rw [TL.tl_append, List.mem_append] at m; exact m.elim (h.ok c) (h2.ok c)
theorem GW.strI {n : Nat} (h : n ≤ 9999) : GW 4 (strI (n : Int)) := ⟨(strI_word h).sp, (strI_word h).nl, strI_ne, strI_len h, fun c m => by have := strI_sp m; omega⟩
structure WsOk (j : Nat) (ws : List Str) : Prop where
  n : ws.length ≤ 12 + j
  w : ∀ w ∈ ws, GW (6 + j) w
theorem WsOk.le {j k : Nat} {ws : List Str} (h : WsOk j ws) (l : j ≤ k) : WsOk k ws := ⟨by have := h.n; omega, fun w m => (h.w w m).le (by omega)⟩
theorem gw_left : GW 6 "left" := ⟨by decide +kernel, by decide +kernel, by decide +kernel, by decide +kernel, by decide +kernel⟩
theorem gw_0 : GW 1 "0" := ⟨by decide +kernel, by decide +kernel, by decide +kernel, by decide +kernel, by decide +kernel⟩
theorem gw_x : GW 1 "x" := ⟨by decide +kernel, by decide +kernel, by decide +kernel, by decide +kernel, by decide +kernel⟩
theorem gw_1000 : GW 4 "1000" := ⟨by decide +kernel, by decide +kernel, by decide +kernel, by decide +kernel, by decide +kernel⟩
theorem gw_1001 : GW 5 "1001" := ⟨by decide +kernel, by decide +kernel, by decide +kernel, by decide +kernel, by decide +kernel⟩
theorem gw_m1 : GW 5 "-1" := ⟨by decide +kernel, by decide +kernel, by decide +kernel, by decide +kernel, by decide +kernel⟩
theorem gw_10000 : GW 5 "10000" := ⟨by decide +kernel, by decide +kernel, by decide +kernel, by decide +kernel, by decide +kernel⟩
theorem gw_15 : GW 5 "1.5" := ⟨by decide +kernel, by decide +kernel, by decide +kernel, by decide +kernel, by decide +kernel⟩
theorem gw_head : ∀ w ∈ (["lefts", "share", "Left", "1"] : List Str), GW 6 w := by
  intro w m
  rcases List.mem_cons.mp m with rfl | m
  · exact ⟨by decide +kernel, by decide +kernel, by decide +kernel, by decide +kernel, by decide +kernel⟩
  rcases List.mem_cons.mp m with rfl | m
  · exact ⟨by decide +kernel, by decide +kernel, by decide +kernel, by decide +kernel, by decide +kernel⟩
  rcases List.mem_cons.mp m with rfl | m
  · exact ⟨by decide +kernel, by decide +kernel, by decide +kernel, by decide +kernel, by decide +kernel⟩
  rcases List.mem_cons.mp m with rfl | m
  · exact ⟨by decide +kernel, by decide +kernel, by decide +kernel, by decide +kernel, by decide +kernel⟩
  cases m
theorem cut_str {ns : List Str} {lo hi : Option Int} : ∃ ms : List Str, cutV (ns.map V.str) lo hi = ms.map V.str ∧ ms.length ≤ ns.length ∧ ∀ m ∈ ms, m ∈ ns := by
  refine ⟨(ns.drop (HT.sIx (ns.map V.str).length 0 lo)).take (HT.sIx (ns.map V.str).length (ns.map V.str).length hi - HT.sIx (ns.map V.str).length 0 lo), ?_, ?_, fun m h => ?_⟩
  · unfold cutV
    rw [List.map_take, List.map_drop]
  · rw [List.length_take, List.length_drop]
    omega
  · exact List.mem_of_mem_drop (List.mem_of_mem_take h)
abbrev WRow := Addr × List Str
def rwL (xs : List WRow) : List V := xs.map fun x => V.ref x.1
def WIn (F : Hp) (xs : List WRow) : Prop := ∀ x ∈ xs, F x.1 = some (.lst (x.2.map V.str))
theorem WIn.same {F F' : Hp} {xs : List WRow} (h : WIn F xs) (s : Same F F') : WIn F' xs := fun x m => s _ _ (h x m)

/-! ### _law_bad_word -/
abbrev s__law_bad_word : Stmt := top 27
abbrev N__law_bad_word : List Str := ["_law_pot_here", "_law_word", "_law_what"]
theorem sc__law_bad_word : FnScope N__law_bad_word ["_law_pot_here", "_law_word"] (defScope s__law_bad_word) := ⟨rfl, rfl, rfl, by decide +kernel, rfl, by decide +kernel, by decide +kernel⟩
def pr__law_bad_word (K : PySem.W.Frag) : V → V → Hp → VK → XK → Prop := fun a0 a1 H Q E => ∃ (F : Hp) (R : Cells) (p : Addr) (x : Pt) (n : Int) (w : Str) (k : Nat), a0 = .ref p ∧ a1 = .str w ∧ Sta F (potS p x :: R) H ∧ PotOk x n ∧ n ≤ 8000 ∧ GW k w ∧ 4 ≤ k ∧ k ≤ 15 ∧ ∀ z y F' H', Same F F' → PotOk y (n + 1) → GW (k + 1) z → Sta F' (potS p y :: R) H' → Q (.str z) H' 
abbrev sp__law_bad_word (K : PySem.W.Frag) : Sp := Sp2 (pr__law_bad_word K)
theorem ok__law_bad_word {P : Program} {w : World} {K : PySem.W.Frag} {mg : Str → Option Value} {base : Heap} {f : Addr} {fd : FuncData} (F : FunD K "_law_bad_word" "_law_bad_word" (defArgs s__law_bad_word) (defBody s__law_bad_word) (defScope s__law_bad_word) [] [] f fd) (T : Txt K mg) (d__law_take : Dn P w K mg base CX0 2 "_law_take" ["_law_pot_here", "_law_many"] [] (sp__law_take K)) : FnOk P w K mg base CX0 3 f fd ["_law_pot_here", "_law_word"] (sp__law_bad_word K) := by
  refine F.ok sc__law_bad_word (fun vs H Q E h => len2 h) (fun cdv A outer s H vs Q E hr h => ?_)
  obtain ⟨a0, a1, rfl, h⟩ := h
  have hu := hu_of hr
  refine ⟨_, PSs.nox ((pss_cons (ps_set (i := 2) sc__law_bad_word.nd rfl (by first | exact Or.inl rfl | exact Or.inr rfl) (pe_d d__law_take (hr.mono (by decide)) rfl pass0 (pa_cons (pv 0) (pa_cons pe_int pa_nil))))
      (pss_one (ps_ret (pe_ix (ix_X hu) (pe_lst (pa_cons pe_str (pa_cons (pe_op op_addX pe_str (pv 1)) (pa_cons pe_str (pa_cons (pe_op op_addX (pv 1) pe_str) (pa_cons pe_str (pa_cons pe_str pa_nil))))))) (pv 2) (fun _ _ => rfl)))))), ?_⟩
  refine go_start (σ := [some a0, some a1, none]) rfl ?_
  try dsimp only [cxOf, Cx.nox, Cx.wish, Cx.tr, Cx.suite]
  obtain ⟨F, R, p, x, n, w, k, rfl, rfl, st, ok, hn, hw, k4, k15, hq⟩ := h
  walk_at "*"
  refine go_takeS st .rfl ok (by omega) (by decide) (by decide) fun r y H1 r0 r1 ok1 st1 => ?_
  walk_at "*"
  have l0 : (Str.ofString "0").length = 1 := by decide +kernel
  have lx : (Str.ofString "x").length = 1 := by decide +kernel
  refine go_addS (szl (by have := hw.len; omega)) ?_
  walk_at "*"
  refine go_addS (szl (by have := hw.len; omega)) ?_
  walk_at "*"
  refine go_newF st1 fun b F2 H2 s2 e2 st2 => ?_
  obtain ⟨z, ez, mz⟩ := menuS (L := ["1001", "0" ++ w, "-1", w ++ "x", "10000", "1.5"]) r0 r1
  walk_at "*"
  refine go_xL (.of (st2.of e2)) ez ?_
  refine hq z y F2 H2 s2 ok1 ?_ st2
  rcases List.mem_cons.mp mz with rfl | mz
  · exact gw_1001.le (by omega)
  rcases List.mem_cons.mp mz with rfl | mz
  · exact (gw_0.app hw).le (by omega)
  rcases List.mem_cons.mp mz with rfl | mz
  · exact gw_m1.le (by omega)
  rcases List.mem_cons.mp mz with rfl | mz
  · exact hw.app gw_x
  rcases List.mem_cons.mp mz with rfl | mz
  · exact gw_10000.le (by omega)
  rcases List.mem_cons.mp mz with rfl | mz
  · exact gw_15.le (by omega)
  cases mz
/-! ### _law_spoilt -/
abbrev s__law_spoilt : Stmt := top 28
abbrev N__law_spoilt : List Str := ["_law_words", "_law_pot_here", "_law_what", "_law_at", "_law_share", "_law_made"]
theorem sc__law_spoilt : FnScope N__law_spoilt ["_law_words", "_law_pot_here"] (defScope s__law_spoilt) := ⟨rfl, rfl, rfl, by decide +kernel, rfl, by decide +kernel, by decide +kernel⟩
def pr__law_spoilt (K : PySem.W.Frag) : V → V → Hp → VK → XK → Prop := fun a0 a1 H Q E => ∃ (F : Hp) (R : Cells) (q p : Addr) (x : Pt) (n : Int) (ws : List Str) (j : Nat), a0 = .ref q ∧ a1 = .ref p ∧ F q = some (.lst (ws.map V.str)) ∧ Sta F (potS p x :: R) H ∧ PotOk x n ∧ n ≤ 7000 ∧ WsOk j ws ∧ j ≤ 5 ∧ 2 ≤ ws.length ∧ ∀ r zs y F' H', Same F F' → F' r = some (.lst (zs.map V.str)) → PotOk y (n + 5) → WsOk (j + 1) zs → Sta F' (potS p y :: R) H' → Q (.ref r) H' 
abbrev sp__law_spoilt (K : PySem.W.Frag) : Sp := Sp2 (pr__law_spoilt K)
theorem ok__law_spoilt {P : Program} {w : World} {K : PySem.W.Frag} {mg : Str → Option Value} {base : Heap} {f : Addr} {fd : FuncData} (F : FunD K "_law_spoilt" "_law_spoilt" (defArgs s__law_spoilt) (defBody s__law_spoilt) (defScope s__law_spoilt) [] [] f fd) (T : Txt K mg) (d__law_take : Dn P w K mg base CX0 2 "_law_take" ["_law_pot_here", "_law_many"] [] (sp__law_take K)) (d__law_bad_word : Dn P w K mg base CX0 3 "_law_bad_word" ["_law_pot_here", "_law_word"] [] (sp__law_bad_word K)) : FnOk P w K mg base CX0 4 f fd ["_law_words", "_law_pot_here"] (sp__law_spoilt K) := by
  refine F.ok sc__law_spoilt (fun vs H Q E h => len2 h) (fun cdv A outer s H vs Q E hr h => ?_)
  obtain ⟨a0, a1, rfl, h⟩ := h
  have hu := hu_of hr
  refine ⟨_, PSs.nox ((pss_cons (ps_set (i := 2) sc__law_spoilt.nd rfl (by first | exact Or.inl rfl | exact Or.inr rfl) (pe_d d__law_take (hr.mono (by decide)) rfl pass0 (pa_cons (pv 1) (pa_cons pe_int pa_nil))))
      (pss_cons (ps_set (i := 3) sc__law_spoilt.nd rfl (by first | exact Or.inl rfl | exact Or.inr rfl) (pe_op op_addX pe_int (pe_d d__law_take (hr.mono (by decide)) rfl pass0 (pa_cons (pv 1) (pa_cons (pe_op op_sub (pe_callB call_lenX (by rfl) T.b_len L2.A.boot_len (pa_cons (pv 0) pa_nil)) pe_int) pa_nil)))))
      (pss_cons (ps_if (pt_cmpR (op_eqX hr.units) (pv 2) pe_int (nomark _)) (pss_one (ps_ret (pe_op op_addX (pe_lst (pa_cons (pe_ix (ix_X hu) (pe_lst (pa_cons pe_str (pa_cons pe_str (pa_cons pe_str (pa_cons pe_str pa_nil))))) (pe_d d__law_take (hr.mono (by decide)) rfl pass0 (pa_cons (pv 1) (pa_cons pe_int pa_nil))) (fun _ _ => rfl)) pa_nil)) (pe_slice sl_X (pv 0) (po_some pe_int) po_none)))) pss_nil)
      (pss_cons (ps_if (pt_cmpR (op_eqX hr.units) (pv 2) pe_int (nomark _)) (pss_one (ps_ret (pe_ix (ix_X hu) (pe_lst (pa_cons (pe_slice sl_X (pv 0) po_none (po_some pe_int)) (pa_cons (pe_op op_addX (pe_lst (pa_cons pe_str pa_nil)) (pe_op op_mulX (pe_lst (pa_cons pe_str pa_nil)) pe_int)) pa_nil))) (pe_d d__law_take (hr.mono (by decide)) rfl pass0 (pa_cons (pv 1) (pa_cons pe_int pa_nil))) (fun _ _ => rfl)))) pss_nil)
      (pss_cons (ps_if (pt_cmpR (op_eqX hr.units) (pv 2) pe_int (nomark _)) (pss_one (ps_ret (pe_op op_addX (pe_op op_addX (pe_slice sl_X (pv 0) po_none (po_some (pv 3))) (pe_lst (pa_cons (pe_d d__law_bad_word (hr.mono (by decide)) rfl pass0 (pa_cons (pv 1) (pa_cons (pe_ix (ix_X hu) (pv 0) (pv 3) (fun _ _ => rfl)) pa_nil))) pa_nil))) (pe_slice sl_X (pv 0) (po_some (pe_op op_addX (pv 3) pe_int)) po_none)))) pss_nil)
      (pss_cons (ps_if (PW.pt (pw_and (pt_cmpR (op_eqX hr.units) (pv 2) pe_int (nomark _)) (pw_and1 (pt_cmpR op_gt (pe_callB call_lenX (by rfl) T.b_len L2.A.boot_len (pa_cons (pv 0) pa_nil)) pe_int (nomark _))))) (pss_one (ps_ret (pe_slice sl_X (pv 0) po_none (po_some (pe_un un_neg pe_int))))) pss_nil)
      (pss_cons (ps_if (pt_cmpR op_lt (pv 2) pe_int (nomark _)) (pss_one (ps_ret (pe_op op_addX (pv 0) (pe_lst (pa_cons pe_str pa_nil))))) pss_nil)
      (pss_cons (ps_set (i := 4) sc__law_spoilt.nd rfl (by first | exact Or.inl rfl | exact Or.inr rfl) (pe_ix (ix_X hu) (pe_lst (pa_cons pe_int (pa_cons pe_int (pa_cons pe_int (pa_cons (pe_d d__law_take (hr.mono (by decide)) rfl pass0 (pa_cons (pv 1) (pa_cons pe_int pa_nil))) pa_nil))))) (pe_d d__law_take (hr.mono (by decide)) rfl pass0 (pa_cons (pv 1) (pa_cons pe_int pa_nil))) (fun _ _ => rfl)))
      (pss_cons (ps_set (i := 5) sc__law_spoilt.nd rfl (by first | exact Or.inl rfl | exact Or.inr rfl) (pe_op op_addX (pe_op op_addX (pe_slice sl_X (pv 0) po_none (po_some (pv 3))) (pe_lst (pa_cons (pe_callTy call_strI (by rfl) T.b_str L2.A.boot_str (pa_cons (pv 4) pa_nil)) pa_nil))) (pe_slice sl_X (pv 0) (po_some (pe_op op_addX (pv 3) pe_int)) po_none)))
      (pss_cons (ps_if (pt_cmpR (op_eqX hr.units) (pv 2) pe_int (nomark _)) (pss_one (ps_asg pe_str (pg_sub (pv 5) (pe_un un_neg pe_int) (set_X hu)))) pss_nil)
      (pss_one (ps_ret (pv 5)))))))))))))), ?_⟩
  refine go_start (σ := [some a0, some a1, none, none, none, none]) rfl ?_
  try dsimp only [cxOf, Cx.nox, Cx.wish, Cx.tr, Cx.suite]
  obtain ⟨F, R, q, p, x, n, ws, j, rfl, rfl, hw, st, ok, hn, wk, j5, l2, hq⟩ := h
  have wn := wk.n
  have wj := fun w m => (wk.w w m).le (show 6 + j ≤ 6 + (j + 1) by omega)
  walk_at "*"
  refine go_takeS st .rfl ok (by omega) (by decide) (by decide) fun r y H1 r0 r1 ok1 st1 => ?_
  walk_at "*"
  rw [List.length_map]
  refine go_takeS st1 .rfl ok1 (by omega) (by omega) (by omega) fun a y2 H2 a0 a1 ok2 st2 => ?_
  obtain ⟨k, rfl⟩ : ∃ k : Nat, a = (k : Int) := ⟨a.toNat, by omega⟩
  walk_at "*"
  rw [show (1 : Int) + (k : Int) = ((k + 1 : Nat) : Int) by omega]
  refine if2 (fun c => ?_) (fun c => ?_)
  · walk_at "*"
    refine go_newF st2 fun b F3 H3 s3 e3 st3 => ?_
    walk_at "*"
    refine go_takeS st3 .rfl ok2 (by omega) (by decide) (by decide) fun r3 y3 H4 r30 r31 ok3 st4 => ?_
    obtain ⟨z, ez, mz⟩ := menuS (L := ["lefts", "share", "Left", "1"]) r30 r31
    walk_at "*"
    refine go_xL (.of (st4.of e3)) ez ?_
    walk_at "*"
    refine go_newF st4 fun b5 F5 H5 s5 e5 st5 => ?_
    walk_at "*"
    refine go_slL (.of (st5.of ((s3.trans s5) _ _ hw))) (lo := some ((1 : Nat) : Int)) (hi := none) (ys := (ws.drop 1).map V.str) (by rw [cut_drop (by rw [List.length_map]; omega), List.map_drop]) ?_
    refine go_newF st5 fun b6 F6 H6 s6 e6 st6 => ?_
    walk_at "*"
    refine go_addL (st6.of (s6 _ _ e5)) (st6.of e6) (szl (by simp; omega)) ?_
    refine go_newF st6 fun b7 F7 H7 s7 e7 st7 => ?_
    refine hq b7 (z :: ws.drop 1) y3 F7 H7 (s3.trans (s5.trans (s6.trans s7))) e7 (ok3.le (by omega)) ⟨by simp; omega, fun w m => ?_⟩ st7
    rcases List.mem_cons.mp m with rfl | m
    · exact (gw_head _ mz).le (by omega)
    · exact wj w (List.mem_of_mem_drop m)
  walk_at "*"
  refine if2 (fun c => ?_) (fun c => ?_)
  · walk_at "*"
    refine go_slL (.of (st2.of hw)) (lo := none) (hi := some ((1 : Nat) : Int)) (ys := (ws.take 1).map V.str) (by rw [cut_take (by rw [List.length_map]; omega), List.map_take]) ?_
    refine go_newF st2 fun b3 F3 H3 s3 e3 st3 => ?_
    walk_at "*"
    refine go_newF st3 fun b4 F4 H4 s4 e4 st4 => ?_
    walk_at "*"
    refine go_newF st4 fun b5 F5 H5 s5 e5 st5 => ?_
    walk_at "*"
    refine go_repF (ys := (List.replicate 12 (Str.ofString "0")).map V.str) (st5.of e5) (by decide) (by decide) rfl ?_
    refine go_newF st5 fun b6 F6 H6 s6 e6 st6 => ?_
    walk_at "*"
    refine go_addL (st6.of ((s5.trans s6) _ _ e4)) (st6.of e6) (szl (by simp)) ?_
    show NewO (.lst ((Str.ofString "left" :: List.replicate 12 (Str.ofString "0")).map V.str)) _ _
    refine go_newF st6 fun b7 F7 H7 s7 e7 st7 => ?_
    walk_at "*"
    refine go_newF st7 fun b8 F8 H8 s8 e8 st8 => ?_
    walk_at "*"
    refine go_takeS st8 .rfl ok2 (by omega) (by decide) (by decide) fun r9 y9 H9 r90 r91 ok9 st9 => ?_
    walk_at "*"
    have hh : r9 = 0 ∨ r9 = 1 := by omega
    rcases hh with rfl | rfl
    · refine go_xL (.of (st9.of e8)) at0 ?_
      refine hq b3 (ws.take 1) y9 F8 H9 (s3.trans (s4.trans (s5.trans (s6.trans (s7.trans s8))))) ((s4.trans (s5.trans (s6.trans (s7.trans s8)))) _ _ e3) (ok9.le (by omega)) ⟨by rw [List.length_take]; omega, fun w m => wj w (List.mem_of_mem_take m)⟩ st9
    · refine go_xL (.of (st9.of e8)) at1 ?_
      refine hq b7 (Str.ofString "left" :: List.replicate 12 (Str.ofString "0")) y9 F8 H9 (s3.trans (s4.trans (s5.trans (s6.trans (s7.trans s8))))) (s8 _ _ e7) (ok9.le (by omega)) ⟨by rw [List.length_cons, List.length_replicate]; omega, fun w m => ?_⟩ st9
      rcases List.mem_cons.mp m with rfl | m
      · exact gw_left.le (by omega)
      · rw [List.eq_of_mem_replicate m]; exact gw_0.le (by omega)
  have hk : k + 1 < ws.length := by omega
  have ek : atI (ws.map V.str) ((k + 1 : Nat) : Int) = some (.str ws[k + 1]) := atI_nat (by rw [List.getElem?_map, List.getElem?_eq_getElem hk]; rfl)
  walk_at "*"
  refine if2 (fun c => ?_) (fun c => ?_)
  · walk_at "*"
    refine go_slL (.of (st2.of hw)) (lo := none) (hi := some ((k + 1 : Nat) : Int)) (ys := (ws.take (k + 1)).map V.str) (by rw [cut_take (by rw [List.length_map]; omega), List.map_take]) ?_
    refine go_newF st2 fun b3 F3 H3 s3 e3 st3 => ?_
    walk_at "*"
    refine go_xL (.of (st3.of (s3 _ _ hw))) ek ?_
    walk_at "*"
    refine go_sp2 ⟨F3, R, p, y2, n + 1 + 1, ws[k + 1], 6 + j, rfl, rfl, st3, ok2, by omega, wk.w _ (List.getElem_mem hk), by omega, by omega, fun z y4 F4 H4 s4 ok4 gz st4 => ?_⟩
    walk_at "*"
    refine go_newF st4 fun b5 F5 H5 s5 e5 st5 => ?_
    walk_at "*"
    refine go_addL (st5.of ((s4.trans s5) _ _ e3)) (st5.of e5) (szl (by simp; omega)) ?_
    refine go_newF (o := .lst ((ws.take (k + 1)).map V.str ++ [.str z])) st5 fun b6 F6 H6 s6 e6 st6 => ?_
    walk_at "*"
    rw [show ((k + 1 : Nat) : Int) + 1 = ((k + 2 : Nat) : Int) by omega]
    refine go_slL (.of (st6.of ((s3.trans (s4.trans (s5.trans s6))) _ _ hw))) (lo := some ((k + 2 : Nat) : Int)) (hi := none) (ys := (ws.drop (k + 2)).map V.str) (by rw [cut_drop (by rw [List.length_map]; omega), List.map_drop]) ?_
    refine go_newF st6 fun b7 F7 H7 s7 e7 st7 => ?_
    walk_at "*"
    refine go_addL (st7.of (s7 _ _ e6)) (st7.of e7) (szl (by simp; omega)) ?_
    rw [show (ws.take (k + 1)).map V.str ++ [.str z] ++ (ws.drop (k + 2)).map V.str = (ws.take (k + 1) ++ [z] ++ ws.drop (k + 2)).map V.str by simp]
    refine go_newF st7 fun b8 F8 H8 s8 e8 st8 => ?_
    refine hq b8 _ y4 F8 H8 (s3.trans (s4.trans (s5.trans (s6.trans (s7.trans s8))))) e8 (ok4.le (by omega)) ⟨by simp; omega, fun w m => ?_⟩ st8
    rcases List.mem_append.mp m with m | m
    · rcases List.mem_append.mp m with m | m
      · exact wj w (List.mem_of_mem_take m)
      · rw [List.mem_singleton.mp m]; exact gz.le (by omega)
    · exact wj w (List.mem_of_mem_drop m)
  walk_at "*"
  refine if2 (fun c => ?_) (fun c => ?_)
  · walk_at "*"
    obtain ⟨ms, em, ml, mm⟩ := cut_str (ns := ws) (lo := none) (hi := some (-1))
    refine go_slL (.of (st2.of hw)) em ?_
    refine go_newF st2 fun b3 F3 H3 s3 e3 st3 => ?_
    exact hq b3 ms y2 F3 H3 s3 e3 (ok2.le (by omega)) ⟨by omega, fun w m => wj w (mm w m)⟩ st3
  walk_at "*"
  refine if2 (fun c => ?_) (fun c => ?_)
  · walk_at "*"
    refine go_newF st2 fun b3 F3 H3 s3 e3 st3 => ?_
    walk_at "*"
    refine go_addL (st3.of (s3 _ _ hw)) (st3.of e3) (szl (by simp; omega)) ?_
    rw [show ws.map V.str ++ [.str "0"] = (ws ++ [Str.ofString "0"]).map V.str by simp]
    refine go_newF st3 fun b4 F4 H4 s4 e4 st4 => ?_
    refine hq b4 _ y2 F4 H4 (s3.trans s4) e4 (ok2.le (by omega)) ⟨by simp; omega, fun w m => ?_⟩ st4
    rcases List.mem_append.mp m with m | m
    · exact wj w m
    · rw [List.mem_singleton.mp m]; exact gw_0.le (by omega)
  walk_at "*"
  refine go_takeS st2 .rfl ok2 (by omega) (by decide) (by decide) fun r3 y3 H3 r30 r31 ok3 st3 => ?_
  walk_at "*"
  refine go_newF st3 fun b4 F4 H4 s4 e4 st4 => ?_
  walk_at "*"
  refine go_takeS st4 .rfl ok3 (by omega) (by decide) (by decide) fun r5 y5 H5 r50 r51 ok5 st5 => ?_
  obtain ⟨z, ez, mz⟩ := menuI (L := [0, 1000, 1, r3]) r50 r51
  walk_at "*"
  refine go_xL (.of (st5.of e4)) ez ?_
  have hz : ∃ m : Nat, z = (m : Int) ∧ m ≤ 1000 := by
    refine ⟨z.toNat, ?_⟩
    simp only [List.mem_cons, List.not_mem_nil, or_false] at mz
    omega
  obtain ⟨m, rfl, hm⟩ := hz
  clear ez mz
  walk_at "*"
  refine go_slL (.of (st5.of (s4 _ _ hw))) (lo := none) (hi := some ((k + 1 : Nat) : Int)) (ys := (ws.take (k + 1)).map V.str) (by rw [cut_take (by rw [List.length_map]; omega), List.map_take]) ?_
  refine go_newF st5 fun b6 F6 H6 s6 e6 st6 => ?_
  walk_at "*"
  refine go_str (strI_log (by omega)) ?_
  walk_at "*"
  refine go_newF st6 fun b7 F7 H7 s7 e7 st7 => ?_
  walk_at "*"
  refine go_addL (st7.of (s7 _ _ e6)) (st7.of e7) (szl (by simp; omega)) ?_
  refine go_newF (o := .lst ((ws.take (k + 1)).map V.str ++ [.str (strI m)])) st7 fun b8 F8 H8 s8 e8 st8 => ?_
  walk_at "*"
  rw [show ((k + 1 : Nat) : Int) + 1 = ((k + 2 : Nat) : Int) by omega]
  refine go_slL (.of (st8.of ((s4.trans (s6.trans (s7.trans s8))) _ _ hw))) (lo := some ((k + 2 : Nat) : Int)) (hi := none) (ys := (ws.drop (k + 2)).map V.str) (by rw [cut_drop (by rw [List.length_map]; omega), List.map_drop]) ?_
  refine go_newF st8 fun b9 F9 H9 s9 e9 st9 => ?_
  walk_at "*"
  refine go_addL (st9.of (s9 _ _ e8)) (st9.of e9) (szl (by simp; omega)) ?_
  rw [show (ws.take (k + 1)).map V.str ++ [.str (strI m)] ++ (ws.drop (k + 2)).map V.str = (ws.take (k + 1) ++ [strI m] ++ ws.drop (k + 2)).map V.str by simp]
  have zl : (ws.take (k + 1) ++ [strI m] ++ ws.drop (k + 2)).length = ws.length := by simp; omega
  have zw : ∀ w ∈ ws.take (k + 1) ++ [strI m] ++ ws.drop (k + 2), GW (6 + (j + 1)) w := fun w mw => by
    rcases List.mem_append.mp mw with mw | mw
    · rcases List.mem_append.mp mw with mw | mw
      · exact wj w (List.mem_of_mem_take mw)
      · rw [List.mem_singleton.mp mw]; exact (GW.strI (by omega)).le (by omega)
    · exact wj w (List.mem_of_mem_drop mw)
  generalize ws.take (k + 1) ++ [strI m] ++ ws.drop (k + 2) = zs at zl zw
  have sF := s4.trans (s6.trans (s7.trans (s8.trans s9)))
  refine go_newLv st9 rfl fun l H10 st10 => ?_
  walk_at "*"
  refine if2 (fun c => ?_) (fun c => ?_)
  · walk_at "*"
    have en : ixN (zs.map V.str).length (-1) = some (zs.length - 1) := by
      unfold ixN
      rw [List.length_map, if_neg (by omega), if_pos (by omega)]
      congr 1
      omega
    refine go_sLS st10 .rfl en fun H11 st11 => ?_
    rw [← List.map_set] at st11
    walk_at "*"
    obtain ⟨F12, s12, e12, st12⟩ := st11.freeze .rfl
    refine hq l _ y5 F12 H11 (sF.trans s12) e12 (ok5.le (by omega)) ⟨by rw [List.length_set]; omega, fun w mw => ?_⟩ st12
    rcases List.mem_or_eq_of_mem_set mw with mw | rfl
    · exact zw w mw
    · exact gw_1000.le (by omega)
  · walk_at "*"
    obtain ⟨F12, s12, e12, st12⟩ := st10.freeze .rfl
    exact hq l _ y5 F12 H10 (sF.trans s12) e12 (ok5.le (by omega)) ⟨by omega, zw⟩ st12
/-! ### _law_rows -/
abbrev s__law_rows : Stmt := top 29
abbrev N__law_rows : List Str := ["_law_script", "_law_rows_here", "_law_pot_here", "_law_turn", "_law_cut", "_law_at", "_law_row", "_law_k", "_law_share"]
theorem sc__law_rows : FnScope N__law_rows ["_law_script"] (defScope s__law_rows) := ⟨rfl, rfl, rfl, by decide +kernel, rfl, by decide +kernel, by decide +kernel⟩
def pr__law_rows (K : PySem.W.Frag) : V → Hp → VK → XK → Prop := fun a0 H Q E => ∃ (a : Addr) (ns : List Int), a0 = .ref a ∧ SqL K H a (ns.map V.int) ∧ ns.length ≤ 63 ∧ ∀ (f : Addr) (xs : List WRow) (F : Hp), Same H F → F f = some (.lst (rwL xs)) → WIn F xs → (∀ x ∈ xs, WsOk 3 x.2) → xs.length ≤ 90 → ∀ H', Same F H' → Q (.ref f) H' 
abbrev sp__law_rows (K : PySem.W.Frag) : Sp := Sp1 (pr__law_rows K)
theorem ok__law_rows {P : Program} {w : World} {K : PySem.W.Frag} {mg : Str → Option Value} {base : Heap} {f : Addr} {fd : FuncData} (F : FunD K "_law_rows" "_law_rows" (defArgs s__law_rows) (defBody s__law_rows) (defScope s__law_rows) [] [] f fd) (T : Txt K mg) (d__law_pot : Dn P w K mg base CX0 1 "_law_pot" ["_law_cell_here"] [] (sp__law_pot K)) (d__law_take : Dn P w K mg base CX0 2 "_law_take" ["_law_pot_here", "_law_many"] [] (sp__law_take K)) (d__law_table : Dn P w K mg base CX0 3 "_law_table" ["_law_script"] [] (sp__law_table K)) (d__law_cell : Dn P w K mg base CX0 1 "_law_cell" ["_law_script", "_law_k"] [] (sp__law_cell K)) (d__law_spoilt : Dn P w K mg base CX0 4 "_law_spoilt" ["_law_words", "_law_pot_here"] [] (sp__law_spoilt K)) : FnOk P w K mg base CX0 5 f fd ["_law_script"] (sp__law_rows K) := by
  refine F.ok sc__law_rows (fun vs H Q E h => len1 h) (fun cdv A outer s H vs Q E hr h => ?_)
  obtain ⟨a0, rfl, h⟩ := h
  have hu := hu_of hr
  refine ⟨_, PSs.nox ((pss_cons (ps_setLc (i := 1) (own := [("_law_row", 6)]) rfl sc__law_rows.nd rfl rfl (sw_true rfl rfl rfl (by decide +kernel)) (pi_X (pe_d d__law_table (hr.mono (by decide)) rfl pass0 (pa_cons (pv 0) pa_nil))) (blkOk_by (N := N__law_rows) (sc := defScope s__law_rows) (own := [("_law_row", 6)]) (by decide +kernel)) (fun _ _ _ _ _ => (pg_name (i := 6) sc__law_rows.nd rfl (by first | exact Or.inl rfl | exact Or.inr rfl))) (fun _ _ _ _ _ => pts_nil) (fun _ _ _ _ _ => (pe_op (op_addK (K := K) rfl) (pe_lst (pa_cons pe_str pa_nil)) (pe_lc (own := [("_law_share", 8)]) rfl sc__law_rows.nd (pi_K (K := K) rfl (pv 6)) (blkOk_in (N := N__law_rows) (own := [("_law_share", 8)]) (by decide +kernel)) (fun _ _ _ _ _ => (pg_name (i := 8) sc__law_rows.nd rfl (by first | exact Or.inl rfl | exact Or.inr rfl))) (fun _ _ _ _ _ => pts_nil) (fun _ _ _ _ _ => (pe_callTy call_strI (by rfl) T.b_str L2.A.boot_str (pa_cons (pv 8) pa_nil)))))))
      (pss_cons (ps_set (i := 2) sc__law_rows.nd rfl (by first | exact Or.inl rfl | exact Or.inr rfl) (pe_d d__law_pot (hr.mono (by decide)) rfl pass0 (pa_cons (pe_op op_fdiv (pe_d d__law_cell (hr.mono (by decide)) rfl pass0 (pa_cons (pv 0) (pa_cons pe_int pa_nil))) pe_int) pa_nil)))
      (pss_cons (ps_if (pt_cmpR (op_eqX hr.units) (pe_d d__law_take (hr.mono (by decide)) rfl pass0 (pa_cons (pv 2) (pa_cons pe_int pa_nil))) pe_int (nomark _)) (pss_one (ps_ret (pe_lc (own := [("_law_k", 7)]) rfl sc__law_rows.nd (pi_range1 rfl T.b_range (pa_cons (pe_d d__law_take (hr.mono (by decide)) rfl pass0 (pa_cons (pv 2) (pa_cons pe_int pa_nil))) pa_nil)) (blkOk_by (N := N__law_rows) (sc := defScope s__law_rows) (own := [("_law_k", 7)]) (by decide +kernel)) (fun _ _ _ _ _ => (pg_name (i := 7) sc__law_rows.nd rfl (by first | exact Or.inl rfl | exact Or.inr rfl))) (fun _ _ _ _ _ => pts_nil) (fun _ _ _ _ _ => (pe_lst pa_nil))))) pss_nil)
      (pss_cons (ps_for PassesOwn.never rfl (pi_range1 rfl T.b_range (pa_cons (pe_d d__law_take (hr.mono (by decide)) rfl pass0 (pa_cons (pv 2) (pa_cons pe_int pa_nil))) pa_nil)) (pg_name (i := 3) sc__law_rows.nd rfl (by first | exact Or.inl rfl | exact Or.inr rfl)) (pss_cons (ps_set (i := 5) sc__law_rows.nd rfl (by first | exact Or.inl rfl | exact Or.inr rfl) (pe_ix (ix_X hu) (pe_lst (pa_cons pe_int (pa_cons (pe_d d__law_take (hr.mono (by decide)) rfl pass0 (pa_cons (pv 2) (pa_cons (pe_callB call_lenX (by rfl) T.b_len L2.A.boot_len (pa_cons (pv 1) pa_nil)) pa_nil))) (pa_cons (pe_op op_sub (pe_callB call_lenX (by rfl) T.b_len L2.A.boot_len (pa_cons (pv 1) pa_nil)) pe_int) pa_nil)))) (pe_d d__law_take (hr.mono (by decide)) rfl pass0 (pa_cons (pv 2) (pa_cons pe_int pa_nil))) (fun _ _ => rfl)))
      (pss_one (ps_if (pt_cmpR op_gt (pe_callB call_lenX (by rfl) T.b_len L2.A.boot_len (pa_cons (pe_ix (ix_X hu) (pv 1) (pv 5) (fun _ _ => rfl)) pa_nil)) pe_int (nomark _)) (pss_one (ps_asg (pe_d d__law_spoilt (hr.mono (by decide)) rfl pass0 (pa_cons (pe_ix (ix_X hu) (pv 1) (pv 5) (fun _ _ => rfl)) (pa_cons (pv 2) pa_nil))) (pg_sub (pv 1) (pv 5) (set_X hu)))) pss_nil))))
      (pss_cons (ps_set (i := 4) sc__law_rows.nd rfl (by first | exact Or.inl rfl | exact Or.inr rfl) (pe_d d__law_take (hr.mono (by decide)) rfl pass0 (pa_cons (pv 2) (pa_cons (pe_op op_addX (pe_callB call_lenX (by rfl) T.b_len L2.A.boot_len (pa_cons (pv 1) pa_nil)) pe_int) pa_nil))))
      (pss_one (ps_ret (pe_op op_addX (pe_op op_addX (pe_slice sl_X (pv 1) po_none (po_some (pv 4))) (pe_op op_mulX (pe_lst (pa_cons (pe_lst pa_nil) pa_nil)) (pe_d d__law_take (hr.mono (by decide)) rfl pass0 (pa_cons (pv 2) (pa_cons pe_int pa_nil))))) (pe_slice sl_X (pv 1) (po_some (pv 4)) po_none)))))))))), ?_⟩
  refine go_start (σ := [some a0, none, none, none, none, none, none, none, none]) rfl ?_
  try dsimp only [cxOf, Cx.nox, Cx.wish, Cx.tr, Cx.suite]
  obtain ⟨a, ns, rfl, hS, hn, hq⟩ := h
  walk_at "*"
  refine go_sp1 ⟨a, ns, rfl, hS, hn, fun t n m ta tf H1 s1 tb gd => ?_⟩
  obtain ⟨ys, ht, ok, hread⟩ := tab_rows tb gd
  have yn0 : 1 ≤ ys.length := by
    rcases ys with _ | ⟨y, r⟩
    · exact absurd (hread [] rfl) (by simp [readTb])
    · simp
  clear hread
  have htf := ht.f
  have yn : ys.length ≤ 64 := by
    have e := tb.top
    rw [htf] at e
    injection e with e
    injection e with e
    have := congrArg List.length e
    rw [lstF_len] at this
    have := gd.n1
    simp [tabL] at *
    omega
  clear tb gd
  have st1 : Sta H1 [] H1 := .nil
  walk_at "*"
  refine go_iL (.of htf) ?_
  refine LcW.sta (walk_emb (xs := ys) (emb := fun x : Row => V.ref x.1)) (fun i zs F L => ∃ ws : List WRow, zs = rwL ws ∧ WIn F ws ∧ (∀ x ∈ ws, WsOk 0 x.2) ∧ ws.length = i ∧ L = [] ∧ Same H1 F) (by omega) st1 ⟨[], rfl, fun x m => (by cases m), fun x m => (by cases m), rfl, rfl, .refl _⟩ (fun i zs F L H _ st ⟨_, _, _, _, _, _, s⟩ => .of (st.of (s _ _ htf))) ?_ ?_
  · rintro A i x zs F L H2 H3 hi hl st ⟨ws, rfl, wi, wo, wl, rfl, s⟩ ⟨rfl, ex⟩ yes no hy hn
    rw [List.getElem?_map, List.getElem?_eq_getElem hi] at ex
    cases ex
    have my := List.getElem_mem hi
    generalize ys[i] = y at my
    have hx := s _ _ (ht.q y my)
    have xv := ok.v y.2 (List.mem_map_of_mem my)
    have xl := ok.m y.2 (List.mem_map_of_mem my)
    refine go_name rfl ⟨rfl, ?_⟩
    walk_at "*"
    refine go_newF st fun b F2 H4 s2 e2 st2 => ?_
    have hx2 := s2 _ _ hx
    walk_at "*"
    refine go_iL (.of (st2.of hx2)) ?_
    refine LcW.accL y.2 V.int (fun pre => (pre.map strI).map V.str) (by omega) st2 (fun F' H' s' st' => .of (st'.of (s' _ _ hx2))) rfl ?_ ?_
    · rintro B pre2 z F3 H5 mz s3 st3 yes2 no2 hy2 hn2
      obtain ⟨n, rfl, hn3⟩ := xv z mz
      refine go_name rfl ⟨rfl, ?_⟩
      walk_at "*"
      refine go_str (strI_log (by omega)) ?_
      exact hy2 _ _ _ (by rw [List.map_append, List.map_append]; rfl) (.refl _) st3
    rintro B F3 H5 s3 st3
    refine go_addL (xs := [Str.ofString "left"].map V.str) (st3.of (s3 _ _ e2)) (st3.get List.mem_cons_self) (szl (by rw [List.length_map, List.length_map]; show 1 + (y.2.map strI).length ≤ _; rw [List.length_map]; omega)) ?_
    rw [← List.map_append]
    refine go_newF st3.tail fun c F4 H6 s4 e4 st4 => ?_
    refine hy _ F4 [] _ st4 ⟨ws ++ [(c, lineTb y.2)], by simp [rwL], fun x mx => ?_, fun x mx => ?_, by rw [List.length_append, wl]; rfl, rfl, s.trans (s2.trans (s3.trans s4))⟩
    · rcases List.mem_append.mp mx with mx | mx
      · exact (wi.same (s2.trans (s3.trans s4))) x mx
      · rw [List.mem_singleton.mp mx]; exact e4
    · rcases List.mem_append.mp mx with mx | mx
      · exact wo x mx
      · rw [List.mem_singleton.mp mx]
        refine ⟨by simp [lineTb]; omega, fun w mw => ?_⟩
        rcases List.mem_cons.mp mw with rfl | mw
        · exact gw_left
        · obtain ⟨z, mz, rfl⟩ := List.mem_map.mp mw
          obtain ⟨n, rfl, hn3⟩ := xv z mz
          exact (GW.strI (by omega)).le (by omega)
  rintro A zs F2 L H2 st2 - ⟨ws, rfl, wi, wo, wl, hL, s2⟩
  cases hL
  have ws0 : ws.length ≤ 64 := by omega
  have wo := fun x m => (wo x m)
  clear st1
  walk_at "*"
  refine go_sp2 ⟨a, ns, rfl, rfl, seqL_same hS (s1.trans (s2.trans st2.fz)), fun z0 => ?_⟩
  walk_at "*"
  refine go_sp1 ⟨_, rfl, fun p H3 hp s3 p3 => ?_⟩
  obtain ⟨u, cu, fu, ep, r3⟩ := p3
  have st3 : Sta F2 (potS p (u, cu, fu) :: [(A, .lst (rwL ws))]) H3 := st2.newL hp s3 ep rfl
  have ok3 : PotOk (u, cu, fu) 0 := r3
  generalize (u, cu, fu) = x3 at st3 ok3
  clear st2 ep
  walk_at "*"
  refine go_takeS st3 .rfl ok3 (by omega) (by decide) (by decide) fun r4 y4 H4 r40 r41 ok4 st4 => ?_
  walk_at "*"
  refine if2 (fun c => ?_) (fun c => ?_)
  · walk_at "*"
    refine go_takeS st4 .rfl ok4 (by omega) (by decide) (by decide) fun r5 y5 H5 r50 r51 ok5 st5 => ?_
    walk_at "*"
    refine LcW.sta walk_range (fun i zs F L => ∃ ws : List WRow, zs = rwL ws ∧ WIn F ws ∧ (∀ x ∈ ws, WsOk 3 x.2) ∧ ws.length = i ∧ Same F2 F) (by omega) st5 ⟨[], rfl, fun x m => (by cases m), fun x m => (by cases m), rfl, .refl _⟩ (fun _ _ _ _ _ _ _ _ => trivial) ?_ ?_
    · rintro D i x zs F L H6 H7 hi hl st ⟨vs, rfl, vi, vo, vl, s⟩ ⟨rfl, rfl⟩ yes no hy hn
      refine go_name rfl ⟨rfl, ?_⟩
      walk_at "*"
      refine go_newF st fun b F3 H8 s8 e8 st8 => ?_
      refine hy _ F3 L _ st8 ⟨vs ++ [(b, [])], by simp [rwL], fun x mx => ?_, fun x mx => ?_, by rw [List.length_append, vl]; rfl, s.trans s8⟩
      · rcases List.mem_append.mp mx with mx | mx
        · exact (vi.same s8) x mx
        · rw [List.mem_singleton.mp mx]; exact e8
      · rcases List.mem_append.mp mx with mx | mx
        · exact vo x mx
        · rw [List.mem_singleton.mp mx]; exact ⟨Nat.zero_le _, fun w m => (by cases m)⟩
    · rintro D zs F L H6 st6 - ⟨vs, rfl, vi, vo, vl, s⟩
      obtain ⟨F7, s7, e7, st7⟩ := st6.freeze .rfl
      exact hq D vs F7 (s1.trans (s2.trans (s.trans s7))) e7 (vi.same s7) vo (by omega) _ st7.fz
  walk_at "*"
  refine go_takeS st4 .rfl ok4 (by omega) (by decide) (by decide) fun r5 y5 H5 r50 r51 ok5 st5 => ?_
  clear st3 st4
  walk_at "*"
  refine ForW.range (fun i σ H' => ∃ ws y F v3 v5, WIn F ws ∧ (∀ x ∈ ws, WsOk i x.2) ∧ ws.length ≤ 64 ∧ 1 ≤ ws.length ∧ PotOk y (2 + 10 * i) ∧ Same F2 F ∧ Sta F [potS p y, (A, .lst (rwL ws))] H' ∧ σ = [some (.ref a), some (.ref A), some (.ref p), v3, none, v5, none, none, none])
    ⟨ws, y5, F2, _, _, wi, wo, by omega, ?_, ok5.le (by omega), .refl _, st5, rfl⟩ ?_ ?_
  · omega
  · rintro i σ H6 hi ⟨ws, y, F, v3, v5, wi, wo, wl, w1, oky, sF, st6, rfl⟩
    have rl : (rwL ws).length = ws.length := List.length_map ..
    walk_at "*"
    rw [rl]
    refine go_takeS st6 .rfl oky (by omega) (by omega) (by omega) fun r7 y7 H7 r70 r71 ok7 st7 => ?_
    walk_at "*"
    rw [rl]
    refine go_newF st7 fun b F8 H8 s8 e8 st8 => ?_
    walk_at "*"
    refine go_takeS st8 .rfl ok7 (by omega) (by decide) (by decide) fun r9 y9 H9 r90 r91 ok9 st9 => ?_
    obtain ⟨z, ez, mz⟩ := menuI (L := [0, r7, (ws.length : Int) - 1]) r90 r91
    have hz : ∃ k : Nat, z = (k : Int) ∧ k < ws.length := by
      refine ⟨z.toNat, ?_⟩
      simp only [List.mem_cons, List.not_mem_nil, or_false] at mz
      omega
    obtain ⟨k, rfl, hk⟩ := hz
    walk_at "*"
    refine go_xL (.of (st9.of e8)) ez ?_
    clear ez mz st6 st7 st8 e8
    have ek : atI (rwL ws) (k : Int) = some (.ref ws[k].1) := atI_nat (by unfold rwL; rw [List.getElem?_map, List.getElem?_eq_getElem hk]; rfl)
    have mk := List.getElem_mem hk
    have wk := wo _ mk
    have wik := s8 _ _ (wi _ mk)
    walk_at "*"
    refine go_xL (.of (st9.get (o := .lst (rwL ws)) (by simp))) ek ?_
    walk_at "*"
    rw [List.length_map]
    refine if2 (fun c => ?_) (fun c => ?_)
    · have c := of_decide_eq_true c
      walk_at "*"
      refine go_xL (.of (st9.get (o := .lst (rwL ws)) (by simp))) ek ?_
      walk_at "*"
      refine go_sp2 ⟨F8, [(A, .lst (rwL ws))], ws[k].1, p, y9, _, ws[k].2, i, rfl, rfl, wik, st9, ok9, by omega, wk, by omega, by omega, fun r zs y10 F10 H10 s10 e10 ok10 zo st10 => ?_⟩
      walk_at "*"
      refine go_sLS (xs := rwL ws) (R := [potS p y10]) st10 (.swap _ _ _) (by unfold ixN; rw [rl, if_pos (by omega), if_pos (by omega)]) fun H11 st11 => ?_
      walk_at "*"
      refine ⟨ws.set (k : Int).toNat (r, zs), y10, F10, _, _, fun x mx => ?_, fun x mx => ?_, by rw [List.length_set]; exact wl, by rw [List.length_set]; exact w1, ok10.le (by omega), sF.trans (s8.trans s10), ?_, rfl⟩
      · rcases List.mem_or_eq_of_mem_set mx with mx | rfl
        · exact (wi.same (s8.trans s10)) x mx
        · exact e10
      · rcases List.mem_or_eq_of_mem_set mx with mx | rfl
        · exact (wo x mx).le (by omega)
        · exact zo
      · unfold rwL
        rw [List.map_set]
        exact st11.perm (.swap _ _ _)
    · walk_at "*"
      exact ⟨ws, y9, F8, _, _, wi.same s8, fun x mx => (wo x mx).le (by omega), wl, w1, ok9.le (by omega), sF.trans s8, st9, rfl⟩
  rintro σ H6 ⟨ws, y, F, v3, v5, wi, wo, wl, w1, oky, sF, st6, rfl⟩
  have rl : (rwL ws).length = ws.length := List.length_map ..
  walk_at "*"
  rw [rl]
  refine go_takeS st6 .rfl oky (by omega) (by omega) (by omega) fun r7 y7 H7 r70 r71 ok7 st7 => ?_
  obtain ⟨k, rfl⟩ : ∃ k : Nat, r7 = (k : Int) := ⟨r7.toNat, by omega⟩
  have hA : H7 A = some (.lst (rwL ws)) := st7.get (by simp)
  walk_at "*"
  refine go_slL (.of hA) (lo := none) (hi := some (k : Int)) (ys := rwL (ws.take k)) (by rw [cut_take (by rw [rl]; omega)]; unfold rwL; rw [List.map_take]) ?_
  refine go_newF st7 fun b8 F8 H8 s8 e8 st8 => ?_
  walk_at "*"
  refine go_newF st8 fun b9 F9 H9 s9 e9 st9 => ?_
  walk_at "*"
  refine go_newF st9 fun b10 F10 H10 s10 e10 st10 => ?_
  walk_at "*"
  refine go_takeS st10 .rfl ok7 (by omega) (by decide) (by decide) fun r11 y11 H11 r110 r111 ok11 st11 => ?_
  refine go_repF (ys := rwL (List.replicate r11.toNat (b9, []))) (st11.of e10) (by omega) (by rw [List.length_singleton]; omega) (by rw [flat_rep]; unfold rwL; rw [List.map_replicate]) ?_
  refine go_newF st11 fun b12 F12 H12 s12 e12 st12 => ?_
  walk_at "*"
  refine go_addL (st12.of ((s9.trans (s10.trans s12)) _ _ e8)) (st12.of e12) (szl (by simp [rwL]; omega)) ?_
  rw [show rwL (ws.take k) ++ rwL (List.replicate r11.toNat (b9, [])) = rwL (ws.take k ++ List.replicate r11.toNat (b9, [])) by unfold rwL; rw [List.map_append]]
  refine go_newF st12 fun b13 F13 H13 s13 e13 st13 => ?_
  walk_at "*"
  refine go_slL (.of (st13.get (p := A) (o := .lst (rwL ws)) (by simp))) (lo := some (k : Int)) (hi := none) (ys := rwL (ws.drop k)) (by rw [cut_drop (by rw [rl]; omega)]; unfold rwL; rw [List.map_drop]) ?_
  refine go_newF st13 fun b14 F14 H14 s14 e14 st14 => ?_
  walk_at "*"
  refine go_addL (st14.of (s14 _ _ e13)) (st14.of e14) (szl (by simp [rwL]; omega)) ?_
  rw [show rwL (ws.take k ++ List.replicate r11.toNat (b9, [])) ++ rwL (ws.drop k) = rwL (ws.take k ++ List.replicate r11.toNat (b9, []) ++ ws.drop k) by unfold rwL; rw [List.map_append, List.map_append, List.map_append]]
  refine go_newF st14 fun b15 F15 H15 s15 e15 st15 => ?_
  have s9f := s10.trans (s12.trans (s13.trans (s14.trans s15)))
  have wif := wi.same (s8.trans (s9.trans s9f))
  refine hq b15 _ F15 (s1.trans (s2.trans (sF.trans (s8.trans (s9.trans s9f))))) e15 (fun x mx => ?_) (fun x mx => ?_) (by simp; omega) _ st15.fz
  · rcases List.mem_append.mp mx with mx | mx
    · rcases List.mem_append.mp mx with mx | mx
      · exact wif x (List.mem_of_mem_take mx)
      · rw [List.eq_of_mem_replicate mx]; exact s9f _ _ e9
    · exact wif x (List.mem_of_mem_drop mx)
  · have le3 : r5.toNat ≤ 3 := by omega
    rcases List.mem_append.mp mx with mx | mx
    · rcases List.mem_append.mp mx with mx | mx
      · exact (wo x (List.mem_of_mem_take mx)).le le3
      · rw [List.eq_of_mem_replicate mx]; exact ⟨Nat.zero_le _, fun w m => (by cases m)⟩
    · exact (wo x (List.mem_of_mem_drop mx)).le le3
def clsN (w : Int) : Str := if w = 0 then "BadRow" else if w = 1 then "Misplaced" else if w = 2 then "Twice" else if w = 3 then "Unfinished" else if w = 4 then "Falling" else if w = 5 then "NotLet" else if w = 6 then "NoEntry" else ""
/-- an error of the class of that number, its place n -/
def ErrP (K : PySem.W.Frag) (H : Hp) (a : Addr) (w n : Int) : Prop := ∃ dd, H a = some (exq a (.ref (He.ga K (clsN w))) (some dd)) ∧ H dd = some (.xd [("place", .int n)])
theorem ErrP.same {K : PySem.W.Frag} {H H' : Hp} {a : Addr} {w n : Int} (h : ErrP K H a w n) (s : Same H H') : ErrP K H' a w n := by
  obtain ⟨dd, h1, h2⟩ := h
  exact ⟨dd, s _ _ h1, s _ _ h2⟩
theorem bl_all (f : Nat → Bool) (n : Nat) : ((List.range n).map fun (i : Nat) => V.bl (f i)).all okV = true := by
  rw [List.all_eq_true]
  intro v m
  obtain ⟨i, _, rfl⟩ := List.mem_map.mp m
  rfl

/-! ### _law_kind -/
abbrev s__law_kind : Stmt := top 26
abbrev N__law_kind : List Str := ["_law_caught", "_law_kinds"]
theorem sc__law_kind : FnScope N__law_kind ["_law_caught"] (defScope s__law_kind) := ⟨rfl, rfl, rfl, by decide +kernel, rfl, by decide +kernel, by decide +kernel⟩
def pr__law_kind (K : PySem.W.Frag) : V → Hp → VK → XK → Prop := fun a0 H Q E => ∃ (a : Addr) (w n : Int), a0 = .ref a ∧ (w = 0 ∨ w = 4) ∧ ErrP K H a w n ∧ ∀ H', Same H H' → Q (.str (if w = 0 then "bad" else "falling")) H' 
abbrev sp__law_kind (K : PySem.W.Frag) : Sp := Sp1 (pr__law_kind K)
theorem ok__law_kind {P : Program} {w : World} {K : PySem.W.Frag} {mg : Str → Option Value} {base : Heap} {f : Addr} {fd : FuncData} (F : FunD K "_law_kind" "_law_kind" (defArgs s__law_kind) (defBody s__law_kind) (defScope s__law_kind) [] [] f fd) (T : Txt K mg)  : FnOk P w K mg base CX0 1 f fd ["_law_caught"] (sp__law_kind K) := by
  refine F.ok sc__law_kind (fun vs H Q E h => len1 h) (fun cdv A outer s H vs Q E hr h => ?_)
  obtain ⟨a0, rfl, h⟩ := h
  have hu := hu_of hr
  refine ⟨_, PSs.nox ((pss_cons (ps_set (i := 1) sc__law_kind.nd rfl (by first | exact Or.inl rfl | exact Or.inr rfl) (pe_lst (pa_cons (pe_callB call_isiY (by rfl) T.b_isinstance L2.A.boot_isinstance (pa_cons (pv 0) (pa_cons (pe_glob (v := .ref (He.ga K "BadRow")) rfl T.c_BadRow rfl) pa_nil))) (pa_cons (pe_callB call_isiY (by rfl) T.b_isinstance L2.A.boot_isinstance (pa_cons (pv 0) (pa_cons (pe_glob (v := .ref (He.ga K "Falling")) rfl T.c_Falling rfl) pa_nil))) (pa_cons (pe_callB call_isiY (by rfl) T.b_isinstance L2.A.boot_isinstance (pa_cons (pv 0) (pa_cons (pe_glob (v := .ref (He.ga K "Misplaced")) rfl T.c_Misplaced rfl) pa_nil))) pa_nil)))))
      (pss_cons (ps_set (i := 1) sc__law_kind.nd rfl (by first | exact Or.inl rfl | exact Or.inr rfl) (pe_op op_addX (pv 1) (pe_lst (pa_cons (pe_callB call_isiY (by rfl) T.b_isinstance L2.A.boot_isinstance (pa_cons (pv 0) (pa_cons (pe_glob (v := .ref (He.ga K "Twice")) rfl T.c_Twice rfl) pa_nil))) (pa_cons (pe_callB call_isiY (by rfl) T.b_isinstance L2.A.boot_isinstance (pa_cons (pv 0) (pa_cons (pe_glob (v := .ref (He.ga K "Unfinished")) rfl T.c_Unfinished rfl) pa_nil))) (pa_cons (pe_callB call_isiY (by rfl) T.b_isinstance L2.A.boot_isinstance (pa_cons (pv 0) (pa_cons (pe_glob (v := .ref (He.ga K "NotLet")) rfl T.c_NotLet rfl) pa_nil))) pa_nil))))))
      (pss_cons (ps_expr (pe_bm PySem.F.plainAttrs_list PySem.F.slot_list_append PySem.F.type_list_append mt_append (pv 1) (pa_cons (pe_callB call_isiY (by rfl) T.b_isinstance L2.A.boot_isinstance (pa_cons (pv 0) (pa_cons (pe_glob (v := .ref (He.ga K "NoEntry")) rfl T.c_NoEntry rfl) pa_nil))) pa_nil)))
      (pss_cons (ps_if (PW.pt (pw_or (pt_not (pt_truX (pe_callB call_isiY (by rfl) T.b_isinstance L2.A.boot_isinstance (pa_cons (pv 0) (pa_cons (pe_glob (v := .ref (He.ga K "BookError")) rfl T.c_BookError rfl) pa_nil))))) (pw_or (pt_not (pt_truX (pe_callB call_isiY (by rfl) T.b_isinstance L2.A.boot_isinstance (pa_cons (pv 0) (pa_cons (pe_bltn (v := .ty "ValueError") (by rfl) T.b_ValueError L2.A.boot_ValueError rfl) pa_nil))))) (pw_or1 (pt_cmpR (op_neX hr.units) (pe_bm PySem.F.plainAttrs_list PySem.F.slot_list_count PySem.F.type_list_count mt_cntF (pv 1) (pa_cons pe_bl pa_nil)) pe_int (nomark _)))))) (pss_one (ps_ret pe_str)) pss_nil)
      (pss_one (ps_ret (pe_ix (ix_X hu) (pe_lst (pa_cons pe_str (pa_cons pe_str (pa_cons pe_str (pa_cons pe_str (pa_cons pe_str (pa_cons pe_str (pa_cons pe_str pa_nil)))))))) (pe_bm PySem.F.plainAttrs_list PySem.F.slot_list_index PySem.F.type_list_index mt_index (pv 1) (pa_cons pe_bl pa_nil)) (fun _ _ => rfl))))))))), ?_⟩
  have kit_BadRow_BadRow := T.kit_BadRow_BadRow
  have kit_BadRow_BookError := T.kit_BadRow_BookError
  have kit_BadRow_Falling := T.kit_BadRow_Falling
  have kit_BadRow_Misplaced := T.kit_BadRow_Misplaced
  have kit_BadRow_NoEntry := T.kit_BadRow_NoEntry
  have kit_BadRow_NotLet := T.kit_BadRow_NotLet
  have kit_BadRow_Twice := T.kit_BadRow_Twice
  have kit_BadRow_Unfinished := T.kit_BadRow_Unfinished
  have kit_BadRow_ValueError := T.kit_BadRow_ValueError
  have kit_Falling_BadRow := T.kit_Falling_BadRow
  have kit_Falling_BookError := T.kit_Falling_BookError
  have kit_Falling_Falling := T.kit_Falling_Falling
  have kit_Falling_Misplaced := T.kit_Falling_Misplaced
  have kit_Falling_NoEntry := T.kit_Falling_NoEntry
  have kit_Falling_NotLet := T.kit_Falling_NotLet
  have kit_Falling_Twice := T.kit_Falling_Twice
  have kit_Falling_Unfinished := T.kit_Falling_Unfinished
  have kit_Falling_ValueError := T.kit_Falling_ValueError
  have kit_Misplaced_BadRow := T.kit_Misplaced_BadRow
  have kit_Misplaced_BookError := T.kit_Misplaced_BookError
  have kit_Misplaced_Falling := T.kit_Misplaced_Falling
  have kit_Misplaced_Misplaced := T.kit_Misplaced_Misplaced
  have kit_Misplaced_NoEntry := T.kit_Misplaced_NoEntry
  have kit_Misplaced_NotLet := T.kit_Misplaced_NotLet
  have kit_Misplaced_Twice := T.kit_Misplaced_Twice
  have kit_Misplaced_Unfinished := T.kit_Misplaced_Unfinished
  have kit_Misplaced_ValueError := T.kit_Misplaced_ValueError
  have kit_NoEntry_BadRow := T.kit_NoEntry_BadRow
  have kit_NoEntry_BookError := T.kit_NoEntry_BookError
  have kit_NoEntry_Falling := T.kit_NoEntry_Falling
  have kit_NoEntry_Misplaced := T.kit_NoEntry_Misplaced
  have kit_NoEntry_NoEntry := T.kit_NoEntry_NoEntry
  have kit_NoEntry_NotLet := T.kit_NoEntry_NotLet
  have kit_NoEntry_Twice := T.kit_NoEntry_Twice
  have kit_NoEntry_Unfinished := T.kit_NoEntry_Unfinished
  have kit_NoEntry_ValueError := T.kit_NoEntry_ValueError
  have kit_NotLet_BadRow := T.kit_NotLet_BadRow
  have kit_NotLet_BookError := T.kit_NotLet_BookError
  have kit_NotLet_Falling := T.kit_NotLet_Falling
  have kit_NotLet_Misplaced := T.kit_NotLet_Misplaced
  have kit_NotLet_NoEntry := T.kit_NotLet_NoEntry
  have kit_NotLet_NotLet := T.kit_NotLet_NotLet
  have kit_NotLet_Twice := T.kit_NotLet_Twice
  have kit_NotLet_Unfinished := T.kit_NotLet_Unfinished
  have kit_NotLet_ValueError := T.kit_NotLet_ValueError
  have kit_Twice_BadRow := T.kit_Twice_BadRow
  have kit_Twice_BookError := T.kit_Twice_BookError
  have kit_Twice_Falling := T.kit_Twice_Falling
  have kit_Twice_Misplaced := T.kit_Twice_Misplaced
  have kit_Twice_NoEntry := T.kit_Twice_NoEntry
  have kit_Twice_NotLet := T.kit_Twice_NotLet
  have kit_Twice_Twice := T.kit_Twice_Twice
  have kit_Twice_Unfinished := T.kit_Twice_Unfinished
  have kit_Twice_ValueError := T.kit_Twice_ValueError
  have kit_Unfinished_BadRow := T.kit_Unfinished_BadRow
  have kit_Unfinished_BookError := T.kit_Unfinished_BookError
  have kit_Unfinished_Falling := T.kit_Unfinished_Falling
  have kit_Unfinished_Misplaced := T.kit_Unfinished_Misplaced
  have kit_Unfinished_NoEntry := T.kit_Unfinished_NoEntry
  have kit_Unfinished_NotLet := T.kit_Unfinished_NotLet
  have kit_Unfinished_Twice := T.kit_Unfinished_Twice
  have kit_Unfinished_Unfinished := T.kit_Unfinished_Unfinished
  have kit_Unfinished_ValueError := T.kit_Unfinished_ValueError
  have xd_BadRow := T.xd_BadRow
  have xd_Falling := T.xd_Falling
  have xd_Misplaced := T.xd_Misplaced
  have xd_NoEntry := T.xd_NoEntry
  have xd_NotLet := T.xd_NotLet
  have xd_Twice := T.xd_Twice
  have xd_Unfinished := T.xd_Unfinished
  refine go_start (σ := [some a0, none]) rfl ?_
  try dsimp only [cxOf, Cx.nox, Cx.wish, Cx.tr, Cx.suite]
  obtain ⟨a, w, n, rfl, hw, ⟨dd, ea, ed⟩, hq⟩ := h
  rcases hw with rfl | rfl
  · simp only [clsN] at ea
    simp only [if_true, if_false, reduceCtorEq, Int.reduceEq] at ea
    have st0 : Sta H [] H := .nil
    walk_at "*"
    refine go_newF st0 fun b1 F1 H1 s1 e1 st1 => ?_
    have ea1 := st1.of (s1 _ _ ea)
    have ed1 := st1.of (s1 _ _ ed)
    walk_at "*"
    refine go_newF st1 fun b2 F2 H2 s2 e2 st2 => ?_
    refine go_addL (st2.of (s2 _ _ e1)) (st2.of e2) (szl (Nat.le_of_ble_eq_true rfl)) ?_
    have ea2 := st2.of ((s1.trans s2) _ _ ea)
    have ed2 := st2.of ((s1.trans s2) _ _ ed)
    clear ea1 ed1 st1
    refine go_newLv st2 rfl fun b3 H3 st3 => ?_
    have ea3 := st3.of ((s1.trans s2) _ _ ea)
    have ed3 := st3.of ((s1.trans s2) _ _ ed)
    clear ea2 ed2 st2
    walk_at "*"
    rename_i H4 st4
    have ea4 := st4.of ((s1.trans s2) _ _ ea)
    have ed4 := st4.of ((s1.trans s2) _ _ ed)
    clear ea3 ed3 st3
    have e4 : H4 b3 = some (.lst (([true, false, false, false, false, false, false] : List Bool).map V.bl)) := st4.get (.head _)
    walk_at "*"
    refine go_cnt (.of e4) rfl rfl ?_
    walk_at "*"
    refine ite_F rfl ?_
    walk_at "*"
    refine go_newF st4 fun b5 F5 H5 s5 e5 st5 => ?_
    have e6 : H5 b3 = some (.lst (([true, false, false, false, false, false, false] : List Bool).map V.bl)) := st5.get (.head _)
    walk_at "*"
    refine go_index (y := .bl true) (j := 0) (.of e6) rfl rfl rfl rfl ?_ ?_
    · intro m z hm hz
      omega
    refine go_xL (.of (st5.of e5)) rfl ?_
    exact ret_V rfl (hq _ (s1.trans (s2.trans (s5.trans st5.fz))))
  · simp only [clsN] at ea
    simp only [if_true, if_false, reduceCtorEq, Int.reduceEq] at ea
    have st0 : Sta H [] H := .nil
    walk_at "*"
    refine go_newF st0 fun b1 F1 H1 s1 e1 st1 => ?_
    have ea1 := st1.of (s1 _ _ ea)
    have ed1 := st1.of (s1 _ _ ed)
    walk_at "*"
    refine go_newF st1 fun b2 F2 H2 s2 e2 st2 => ?_
    refine go_addL (st2.of (s2 _ _ e1)) (st2.of e2) (szl (Nat.le_of_ble_eq_true rfl)) ?_
    have ea2 := st2.of ((s1.trans s2) _ _ ea)
    have ed2 := st2.of ((s1.trans s2) _ _ ed)
    clear ea1 ed1 st1
    refine go_newLv st2 rfl fun b3 H3 st3 => ?_
    have ea3 := st3.of ((s1.trans s2) _ _ ea)
    have ed3 := st3.of ((s1.trans s2) _ _ ed)
    clear ea2 ed2 st2
    walk_at "*"
    rename_i H4 st4
    have ea4 := st4.of ((s1.trans s2) _ _ ea)
    have ed4 := st4.of ((s1.trans s2) _ _ ed)
    clear ea3 ed3 st3
    have e4 : H4 b3 = some (.lst (([false, true, false, false, false, false, false] : List Bool).map V.bl)) := st4.get (.head _)
    walk_at "*"
    refine go_cnt (.of e4) rfl rfl ?_
    walk_at "*"
    refine ite_F rfl ?_
    walk_at "*"
    refine go_newF st4 fun b5 F5 H5 s5 e5 st5 => ?_
    have e6 : H5 b3 = some (.lst (([false, true, false, false, false, false, false] : List Bool).map V.bl)) := st5.get (.head _)
    walk_at "*"
    refine go_index (y := .bl true) (j := 1) (.of e6) rfl rfl rfl rfl ?_ ?_
    · intro m z hm hz
      match m, hm with
      | 0, _ => cases hz; rfl
    refine go_xL (.of (st5.of e5)) rfl ?_
    exact ret_V rfl (hq _ (s1.trans (s2.trans (s5.trans st5.fz))))

def nmb (k : Nat) : List (List Str) → List (Nat × List Str)
  | [] => []
  | ws :: r => if ws = [] then nmb (k + 1) r else (k, ws) :: nmb (k + 1) r
theorem optV_flat {o : Option Int} : flatV (optV o) = true := by cases o <;> rfl
theorem inv_none {os : List (Option Int)} : inV .non (os.map optV) = os.any (fun o => o.isNone) := by
  unfold inV
  rw [List.any_map]
  congr 1
  funext o
  cases o <;> rfl
theorem shR_any : ∀ {ws : List Str}, ((ws.map fun w => numO w 0 1000).any fun o => o.isNone) = (shR ws).isNone
  | [] => rfl
  | w :: r => by
    rw [List.map_cons, List.any_cons, shR_any]
    show _ = (match numO w 0 1000, shR r with
      | some x, some xs => some (x :: xs)
      | _, _ => none).isNone
    cases numO w 0 1000 <;> cases shR r <;> rfl
theorem shR_map : ∀ {ws : List Str} {ys : List Int}, shR ws = some ys → (ws.map fun w => numO w 0 1000).map optV = ys.map V.int
  | [], _, h => by cases h; rfl
  | w :: r, ys, h => by
    have h : (match numO w 0 1000, shR r with
      | some x, some xs => some (x :: xs)
      | _, _ => none) = some ys := h
    cases e1 : numO w 0 1000 with
    | none => rw [e1] at h; cases h
    | some x =>
      cases e2 : shR r with
      | none => rw [e1, e2] at h; cases h
      | some z =>
        rw [e1, e2] at h
        cases h
        rw [List.map_cons, List.map_cons, e1, shR_map e2]; rfl
theorem eqVs_nilS {ws : List Str} : eqVs (ws.map V.str) [] = decide (ws = []) := by cases ws <;> rfl

/-! ### _law_due -/
abbrev s__law_due : Stmt := top 32
abbrev N__law_due : List Str := ["_law_rows_here", "_law_table_here", "_law_k", "_law_words", "_law_shares", "_law_word"]
theorem sc__law_due : FnScope N__law_due ["_law_rows_here"] (defScope s__law_due) := ⟨rfl, rfl, rfl, by decide +kernel, rfl, by decide +kernel, by decide +kernel⟩
def pr__law_due (K : PySem.W.Frag) : V → Hp → VK → XK → Prop := fun a0 H Q E => ∃ (f : Addr) (xs : List WRow), a0 = .ref f ∧ H f = some (.lst (rwL xs)) ∧ WIn H xs ∧ (∀ x ∈ xs, WsOk 3 x.2) ∧ xs.length ≤ 90 ∧
  (∀ tb, readTb (nmb 1 (xs.map Prod.snd)) [] = .ok tb → ∀ t b ys F' H', Same H F' → F' t = some (.tup [.str "", .ref b]) → TabH F' b ys → vals ys = tb → TbOk tb → Same F' H' → Q (.ref t) H') ∧
  (∀ n, readTb (nmb 1 (xs.map Prod.snd)) [] = .bad n → ∀ t F' H', Same H F' → F' t = some (.tup [.str "bad", .int (n : Nat)]) → Same F' H' → Q (.ref t) H') ∧
  (∀ n, readTb (nmb 1 (xs.map Prod.snd)) [] = .fall n → ∀ t F' H', Same H F' → F' t = some (.tup [.str "falling", .int (n : Nat)]) → Same F' H' → Q (.ref t) H') ∧
  (readTb (nmb 1 (xs.map Prod.snd)) [] = .none_ → ∀ t F' H', Same H F' → F' t = some (.tup [.str "falling", .int (max 1 (xs.length : Int))]) → Same F' H' → Q (.ref t) H')
abbrev sp__law_due (K : PySem.W.Frag) : Sp := Sp1 (pr__law_due K)
theorem ok__law_due {P : Program} {w : World} {K : PySem.W.Frag} {mg : Str → Option Value} {base : Heap} {f : Addr} {fd : FuncData} (F : FunD K "_law_due" "_law_due" (defArgs s__law_due) (defBody s__law_due) (defScope s__law_due) [] [] f fd) (T : Txt K mg) (d__law_fault : Dn P w K mg base CX0 1 "_law_fault" ["_law_table_here", "_law_shares"] [] (sp__law_fault K)) (d__law_number : Dn P w K mg base CX0 1 "_law_number" ["_law_word"] [] (sp__law_number K)) : FnOk P w K mg base CX0 2 f fd ["_law_rows_here"] (sp__law_due K) := by
  refine F.ok sc__law_due (fun vs H Q E h => len1 h) (fun cdv A outer s H vs Q E hr h => ?_)
  obtain ⟨a0, rfl, h⟩ := h
  have hu := hu_of hr
  refine ⟨_, PSs.nox ((pss_cons (ps_set (i := 1) sc__law_due.nd rfl (by first | exact Or.inl rfl | exact Or.inr rfl) (pe_lst pa_nil))
      (pss_cons (ps_for PassesOwn.never rfl (pi_enum (by rfl) T.b_enumerate (pa_cons (pv 0) pa_nil)) (pg_tup (n := 2) rfl (pgs_cons (pg_name (i := 2) sc__law_due.nd rfl (by first | exact Or.inl rfl | exact Or.inr rfl)) (pgs_cons (pg_name (i := 3) sc__law_due.nd rfl (by first | exact Or.inl rfl | exact Or.inr rfl)) pgs_nil))) (pss_one (ps_if (pt_cmpR (op_neX hr.units) (pv 3) (pe_lst pa_nil) (nomark _)) (pss_cons (ps_setLc (i := 4) (own := [("_law_word", 5)]) rfl sc__law_due.nd rfl rfl (sw_true rfl rfl rfl (by decide +kernel)) (pi_X (pe_slice sl_X (pv 3) (po_some pe_int) po_none)) (blkOk_by (N := N__law_due) (sc := defScope s__law_due) (own := [("_law_word", 5)]) (by decide +kernel)) (fun _ _ _ _ _ => (pg_name (i := 5) sc__law_due.nd rfl (by first | exact Or.inl rfl | exact Or.inr rfl))) (fun _ _ _ _ _ => pts_nil) (fun _ _ _ _ _ => (pe_d d__law_number (hr.mono (by decide)) rfl pass0 (pa_cons (pv 5) pa_nil))))
      (pss_cut (ps_if (PW.pt (pw_or (pt_cmpR (op_neX hr.units) (pe_ix (ix_X hu) (pv 3) pe_int (fun _ _ => rfl)) pe_str (nomark _)) (pw_or (pt_not (pt_chain op_le op_le pe_int (pe_callB call_lenX (by rfl) T.b_len L2.A.boot_len (pa_cons (pv 4) pa_nil)) pe_int)) (pw_or1 (pt_cmpR (op_inX hu) pe_non (pv 4) (by rfl)))))) (pss_one (ps_ret (pe_tup (pa_cons pe_str (pa_cons (pe_op op_addX (pv 2) pe_int) pa_nil))))) pss_nil)
      (pss_cut (ps_if (PW.pt (pw_and (pt_cmpR (op_neX hr.units) (pv 1) (pe_lst pa_nil) (nomark _)) (pw_and1 (pt_cmpR (op_neX hr.units) (pe_callB call_lenX (by rfl) T.b_len L2.A.boot_len (pa_cons (pv 4) pa_nil)) (pe_callB call_lenX (by rfl) T.b_len L2.A.boot_len (pa_cons (pe_ix (ix_X hu) (pv 1) pe_int (fun _ _ => rfl)) pa_nil)) (nomark _))))) (pss_one (ps_ret (pe_tup (pa_cons pe_str (pa_cons (pe_op op_addX (pv 2) pe_int) pa_nil))))) pss_nil)
      (pss_cons (ps_if (pt_truX (pe_d d__law_fault (hr.mono (by decide)) rfl pass0 (pa_cons (pv 1) (pa_cons (pv 4) pa_nil)))) (pss_one (ps_ret (pe_tup (pa_cons pe_str (pa_cons (pe_op op_addX (pv 2) pe_int) pa_nil))))) pss_nil)
      (pss_one (ps_expr (pe_bm PySem.F.plainAttrs_list PySem.F.slot_list_append PySem.F.type_list_append mt_append (pv 1) (pa_cons (pv 4) pa_nil)))))))) pss_nil)))
      (pss_cons (ps_if (pt_cmpR (op_eqX hr.units) (pv 1) (pe_lst pa_nil) (nomark _)) (pss_one (ps_ret (pe_tup (pa_cons pe_str (pa_cons (pe_callB (call_mx2 rfl) (by rfl) T.b_max L2.A.boot_max (pa_cons pe_int (pa_cons (pe_callB call_lenX (by rfl) T.b_len L2.A.boot_len (pa_cons (pv 0) pa_nil)) pa_nil))) pa_nil))))) pss_nil)
      (pss_one (ps_ret (pe_tup (pa_cons pe_str (pa_cons (pv 1) pa_nil))))))))), ?_⟩
  refine go_start (σ := [some a0, none, none, none, none, none]) rfl ?_
  try dsimp only [cxOf, Cx.nox, Cx.wish, Cx.tr, Cx.suite]
  obtain ⟨f, xs, rfl, hf, hw, wo, wn, hq1, hq2, hq3, hq4⟩ := h
  have st0 : Sta H [] H := .nil
  have rl : (rwL xs).length = xs.length := List.length_map ..
  walk_at "*"
  refine go_newLv st0 rfl fun b H1 st1 => ?_
  walk_at "*"
  refine go_enW (.of (st1.of hf)) ?_
  walk_at "*"
  refine ForW.it (walk_enum (xs := rwL xs)) (fun i σ H' => ∃ ys F' v2 v3 v4, Same H F' ∧ (∀ y ∈ vals ys, y.length = ((vals ys).headD []).length) ∧ TbOk (vals ys) ∧ ys.length ≤ i ∧ (∀ y ∈ ys, F' y.1 = some (.lst (y.2.map V.int))) ∧ Sta F' [(b, .lst (tabL ys))] H' ∧ readTb (nmb 1 (xs.map Prod.snd)) [] = readTb (nmb (1 + i) ((xs.drop i).map Prod.snd)) (vals ys) ∧ σ = [some (.ref f), some (.ref b), v2, v3, v4, none])
    ⟨[], H, _, _, _, .refl _, fun y m => (by cases m), ⟨Nat.zero_le _, fun y m => (by cases m), fun y m => (by cases m)⟩, Nat.le_refl _, fun y m => (by cases m), st1, rfl, rfl⟩ (fun i σ H' _ ⟨_, _, _, _, _, k, _, _, _, _, st, _⟩ => .of (st.of (k _ _ hf))) ?_ ?_
  · rintro i x σ H3 H4 hi ⟨ys, F', v2, v3, v4, k, hle, ok, yl, hy, st3, rx, rfl⟩ ⟨T, y, u, rfl, hT, rfl, ey, eu⟩
    cases ey
    rw [rl] at hi
    have eu2 : (rwL xs)[i]? = some u := eu
    unfold rwL at eu2
    rw [List.getElem?_map, List.getElem?_eq_getElem hi] at eu2
    cases eu2
    have mx := List.getElem_mem hi
    rw [List.drop_eq_getElem_cons hi, List.map_cons] at rx
    generalize xs[i] = r at mx rx hT ⊢
    have ro := wo r mx
    have rn := ro.n
    have sT : Same H3 (upd H3 T (.tup [.int (i : Nat), .ref r.1])) := same_new hT
    have eT : (upd H3 T (.tup [.int (i : Nat), .ref r.1])) T = some (.tup [.int (i : Nat), .ref r.1]) := upd_same
    have st4 := st3.same sT
    generalize upd H3 T (.tup [.int (i : Nat), .ref r.1]) = H4 at st4 eT
    clear st3
    have hwr := k _ _ (hw r mx)
    walk_at "*"
    refine go_newF st4 fun b5 F5 H5 s5 e5 st5 => ?_
    walk_at "*"
    refine go_neL (.of (st5.of (s5 _ _ hwr))) (.of (st5.of e5)) (okV_gw ro.w) rfl ?_
    rw [eqVs_nilS]
    have ewr : nmb (1 + i) (r.2 :: (xs.drop (i + 1)).map Prod.snd) = if r.2 = [] then nmb (1 + (i + 1)) ((xs.drop (i + 1)).map Prod.snd) else (1 + i, r.2) :: nmb (1 + (i + 1)) ((xs.drop (i + 1)).map Prod.snd) := rfl
    rw [ewr] at rx
    clear st4
    have sF5 := k.trans s5
    walk_at "*"
    refine if2 (fun c0 => ?_) (fun c0 => ?_)
    · have c0 := nd_false c0
      rw [if_neg c0] at rx
      obtain ⟨w0, wr, er⟩ : ∃ w0 wr, r.2 = w0 :: wr := by
        cases e : r.2 with
        | nil => exact absurd e c0
        | cons a c => exact ⟨a, c, rfl⟩
      rw [er] at hwr rn rx
      have e0 : sharesT (w0 :: wr) = if w0 = "left" ∧ 1 ≤ wr.length ∧ wr.length ≤ 11 then shR wr else none := rfl
      have wlen : ∀ w ∈ wr, w.length ≤ 600 := fun w m => by have := (ro.w w (by rw [er]; exact List.mem_cons_of_mem _ m)).len; omega
      have l16 : wr.length ≤ 15 := by rw [List.length_cons] at rn; omega
      have place : ((1 + i : Nat) : Int) = (i : Int) + 1 := by omega
      walk_at "*"
      refine go_slL (.of (st5.of (s5 _ _ hwr))) (lo := some ((1 : Nat) : Int)) (hi := none) (ys := wr.map V.str) (cut_drop (by simp)) ?_
      refine go_newF st5 fun b6 F6 H6 s6 e6 st6 => ?_
      walk_at "*"
      refine go_iL (.of (st6.of e6)) ?_
      refine LcW.accL wr V.str (fun pre => (pre.map fun w => numO w 0 1000).map optV) (by omega) st6 (fun F' H' s' st' => .of (st'.of (s' _ _ e6))) rfl ?_ ?_
      · rintro B pre2 z F3 H5 mz s3 st3 yes2 no2 hy2 hn2
        refine go_name rfl ⟨rfl, ?_⟩
        walk_at "*"
        refine go_sp1 ⟨z, rfl, wlen z mz, fun H9 s9 => ?_⟩
        exact hy2 _ _ _ (by rw [List.map_append, List.map_append]; rfl) (.refl _) (st3.same s9)
      rintro B F7 H7 s7 st7
      have hwr7 := st7.of ((s5.trans (s6.trans s7)) _ _ hwr)
      have sF7 := sF5.trans (s6.trans s7)
      clear st5 st6
      have hB := st7.get (.head _)
      have bl : ((wr.map fun w => numO w 0 1000).map optV).length = wr.length := by simp
      have hB2 : H7 B = some (.lst ((wr.map fun w => numO w 0 1000).map optV)) := hB
      clear hB
      walk_at "*"
      refine go_cut (fun σ' H' => ∃ s, sharesT (w0 :: wr) = some s ∧ H' = H7 ∧ σ' = [some (.ref f), some (.ref b), some (.int (i : Nat)), some (.ref r.1), some (.ref B), none]) ?_ ?_
      · have bad : sharesT (w0 :: wr) = none → ∀ {t F8 H8}, Same F7 F8 → F8 t = some (.tup [.str "bad", .int ((i : Int) + 1)]) → Same F8 H8 → Q (.ref t) H8 := fun hn {t F8 H8} s8 e8 s9 => hq2 (1 + i) (rx.trans (readTb_bad hn)) t F8 H8 (sF7.trans s8) (by rw [place]; exact e8) s9
        walk_at "*"
        rw [dec_str]
        by_cases ha : w0 = "left"
        case neg =>
          refine ite_T (by simp [ha]) ?_
          walk_at "*"
          rename_i t8 F8 H8 s8 e8 st8
          exact bad (by rw [e0, if_neg fun z => ha z.1]) s8 e8 st8.fz
        refine ite_F (by simp [ha]) ?_
        walk_at "*"
        rw [bl]
        by_cases la : 1 ≤ wr.length
        case neg =>
          refine ite_F (by simp; omega) ?_
          walk_at "*"
          rename_i t8 F8 H8 s8 e8 st8
          exact bad (by rw [e0, if_neg fun z => la z.2.1]) s8 e8 st8.fz
        refine ite_T (by simp; omega) ?_
        walk_at "*"
        by_cases lb : wr.length ≤ 11
        case neg =>
          refine ite_T (by simp; omega) ?_
          walk_at "*"
          rename_i t8 F8 H8 s8 e8 st8
          exact bad (by rw [e0, if_neg fun z => lb z.2.2]) s8 e8 st8.fz
        refine ite_F (by simp; omega) ?_
        have h1 := And.intro la lb
        rw [if_pos ⟨ha, h1.1, h1.2⟩] at e0
        walk_at "*"
        refine go_inL (.of hB2) rfl (by rw [List.all_eq_true]; intro v m; obtain ⟨o, _, rfl⟩ := List.mem_map.mp m; exact optV_flat) ?_
        rw [inv_none, shR_any]
        walk_at "*"
        cases hs : shR wr with
        | none =>
          refine ite_T rfl ?_
          walk_at "*"
          rename_i t8 F8 H8 s8 e8 st8
          exact bad (e0.trans hs) s8 e8 st8.fz
        | some s =>
          refine ite_F rfl ?_
          walk_at "*"
          exact ⟨s, e0.trans hs, rfl, rfl⟩
      rintro σ' H8 ⟨s, hs, rfl, rfl⟩
      have hs2 : shR wr = some s := by
        have := e0.symm.trans hs
        split at this
        · exact this
        · cases this
      have sl := (shR_len hs2).1
      have sv := (shR_len hs2).2
      have s11 : s.length ≤ 11 := by
        have := e0.symm.trans hs
        split at this
        · rename_i c; omega
        · cases this
      rw [shR_map hs2] at st7 hB2
      have vn : vals ys = [] ↔ ys = [] := by simp [vals]
      clear bl
      have thx : ∀ {F8 H8}, Same F7 F8 → Sta F8 [(B, .lst (s.map V.int)), (b, .lst (tabL ys))] H8 → TabH H8 b ys := fun {F8 H8} s8 st8 => ⟨st8.get (by simp), fun y m => st8.of ((s5.trans (s6.trans (s7.trans s8))) _ _ (hy y m))⟩
      have sh := shaped_of (tab_shape ok).1 (tab_shape ok).2
      have tl : (tabL ys).length = ys.length := List.length_map ..
      refine go_cut (fun σ' H' => ∃ F8, Same F7 F8 ∧ Sta F8 [(B, .lst (s.map V.int)), (b, .lst (tabL ys))] H' ∧ ¬ (vals ys ≠ [] ∧ s.length ≠ ((vals ys).headD []).length) ∧ σ' = [some (.ref f), some (.ref b), some (.int (i : Nat)), some (.ref r.1), some (.ref B), none]) ?_ ?_
      · walk_at "*"
        refine go_newF st7 fun b9 F9 H9 s9 e9 st9 => ?_
        have th9 := thx s9 st9
        have htf := th9.f
        walk_at "*"
        refine go_neD (dp_tab th9 ok) (.lst (.of (st9.of e9)) .nil) sh shape_nil ?_
        rw [eqv_nil]
        walk_at "*"
        refine if2 (fun c => ?_) (fun c => ?_)
        · have c := nd_false c
          rcases ys with _ | ⟨x0, r0⟩
          · exact absurd rfl c
          have hx0 := th9.q x0 (by simp)
          walk_at "*"
          rw [dec_int, List.length_map, List.length_map]
          refine if2 (fun c => ?_) (fun c => ?_)
          · have c := nd_false c
            walk_at "*"
            rename_i t8 F8 H8 s8 e8 st8
            exact hq2 (1 + i) (rx.trans (readTb_len (e := (1 + i, w0 :: wr)) hs ⟨by simp [vals], fun z => c (by rw [z]; rfl)⟩)) t8 F8 _ (sF7.trans (s9.trans s8)) (by rw [place]; exact e8) st8.fz
          · have c := nd_true c
            walk_at "*"
            refine ⟨F9, s9, st9, fun z => z.2 ?_, rfl⟩
            show s.length = x0.2.length
            omega
        · have c := nd_true c
          walk_at "*"
          exact ⟨F9, s9, st9, fun z => z.1 c, rfl⟩
      rintro σ' H9 ⟨F8, s8, st8, cl, rfl⟩
      have eqlen : ∀ y ∈ vals ys, y.length = s.length := fun y m => by
        have := hle y m
        have ne : vals ys ≠ [] := by intro z; rw [z] at m; cases m
        by_cases z : s.length = ((vals ys).headD []).length
        · omega
        · exact absurd ⟨ne, z⟩ cl
      clear st7 hB2
      have th8 := thx s8 st8
      have hB8 : H9 B = some (.lst (s.map V.int)) := st8.get (.head _)
      walk_at "*"
      refine go_sp2 ⟨b, B, ys, s, rfl, rfl, th8, ok, hB8, by omega, eqlen, fun H10 s10 => ?_⟩
      have st10 := st8.same s10
      clear st8 hB8 th8
      walk_at "*"
      refine if2 (fun c => ?_) (fun c => ?_)
      · walk_at "*"
        rename_i t8 F11 H11 s11 e11 st11
        exact hq3 (1 + i) (rx.trans (readTb_fall (e := (1 + i, w0 :: wr)) hs cl c)) t8 F11 _ (sF7.trans (s8.trans s11)) (by rw [place]; exact e11) st11.fz
      · walk_at "*"
        rename_i H11 st11
        obtain ⟨F12, s12, e12, st12⟩ := st11.freeze (a := B) (o := .lst (s.map V.int)) (R := [(b, .lst (tabL ys ++ [.ref B]))]) (.swap _ _ _)
        refine ⟨ys ++ [(B, s)], F12, _, _, _, sF7.trans (s8.trans s12), fun y m => ?_, ?_, by rw [List.length_append, List.length_singleton]; omega, fun y m => ?_, ?_, ?_, rfl⟩
        · have hd : ((vals (ys ++ [(B, s)])).headD []).length = s.length := by
            cases ys with
            | nil => rfl
            | cons x0 r0 => exact eqlen _ (by simp [vals])
          rw [hd]
          simp only [vals, List.map_append, List.mem_append, List.map_cons, List.map_nil, List.mem_singleton] at m
          rcases m with m | rfl
          · exact eqlen y m
          · rfl
        · have ev : vals (ys ++ [(B, s)]) = vals ys ++ [s] := by simp [vals]
          rw [ev]
          refine ⟨by rw [List.length_append, List.length_map]; show ys.length + 1 ≤ 100; omega, fun y m => ?_, fun y m => ?_⟩
          · rcases List.mem_append.mp m with m | m
            · exact ok.m y m
            · rw [List.mem_singleton.mp m]; exact s11
          · rcases List.mem_append.mp m with m | m
            · exact ok.v y m
            · rw [List.mem_singleton.mp m]
              intro z mz
              have := sv z mz
              exact ⟨z.toNat, by omega, by omega⟩
        · rcases List.mem_append.mp m with m | m
          · exact (s5.trans (s6.trans (s7.trans (s8.trans s12)))) _ _ (hy y m)
          · rw [List.mem_singleton.mp m]; exact e12
        · have e1 : tabL (ys ++ [(B, s)]) = tabL ys ++ [.ref B] := by simp [tabL]
          rw [e1]
          exact st12
        · rw [rx.trans (readTb_go (e := (1 + i, w0 :: wr)) hs cl c), show 1 + (i + 1) = 1 + i + 1 by omega]
          simp [vals]
    · have c0 := nd_true c0
      rw [if_pos c0] at rx
      walk_at "*"
      exact ⟨ys, F5, _, _, _, sF5, hle, ok, by omega, fun y m => s5 _ _ (hy y m), st5, rx, rfl⟩
  · rintro σ H3 ⟨ys, F', v2, v3, v4, k, hle, ok, yl, hy, st3, rx, rfl⟩
    rw [rl, List.drop_length] at rx
    have rx2 := rx.trans (show readTb [] (vals ys) = (if vals ys = [] then .none_ else .ok (vals ys)) by unfold readTb; rfl)
    have sh := shaped_of (tab_shape ok).1 (tab_shape ok).2
    clear st1 st0
    walk_at "*"
    refine go_newF st3 fun b9 F9 H9 s9 e9 st9 => ?_
    have th9 : TabH H9 b ys := ⟨st9.get (by simp), fun y m => st9.of (s9 _ _ (hy y m))⟩
    walk_at "*"
    refine go_eqD (dp_tab th9 ok) (.lst (.of (st9.of e9)) .nil) sh shape_nil ?_
    rw [eqv_nil]
    walk_at "*"
    refine if2 (fun c => ?_) (fun c => ?_)
    · rw [if_pos (of_decide_eq_true c)] at rx2
      walk_at "*"
      rename_i t8 F11 H11 s11 e11 st11
      rw [rl] at e11
      exact hq4 rx2 t8 F11 _ (k.trans (s9.trans s11)) e11 st11.fz
    · rw [if_neg (of_decide_eq_false c)] at rx2
      walk_at "*"
      rename_i t8 F11 H11 s11 e11 st11
      obtain ⟨F12, s12, e12, st12⟩ := st11.freeze .rfl
      exact hq1 _ rx2 t8 b ys F12 _ (k.trans (s9.trans (s11.trans s12))) (s12 _ _ e11) ⟨e12, fun y m => (s9.trans (s11.trans s12)) _ _ (hy y m)⟩ rfl ok st12.fz

theorem join_nil : Txt.join (" " : Str) [] = "" := by decide +kernel
theorem wsP {ws : List Str} (h : WsOk 3 ws) : RowP (Txt.join (" " : Str) ws) ws := by
  cases ws with
  | nil =>
    rw [join_nil]
    exact row0 0
  | cons w r => exact join_rowP r.length _ rfl fun v m => ⟨(h.w v m).sp, (h.w v m).nl, by have := (h.w v m).len; omega⟩
theorem ws_words {ws : List Str} (h : WsOk 3 ws) : rwds (Txt.join (" " : Str) ws) = ws := (wsP h).words.trans (nzS_all fun w m => (h.w w m).ne)
theorem ws_sum {ws : List Str} (h : WsOk 3 ws) : (ws.map (·.length)).sum + ws.length * (Str.ofString " ").length ≤ 200 := by
  have e := join_len (rows := ws) (L := 9) fun w m => (h.w w m).len
  have := h.n
  rw [show (Str.ofString " ").length = 1 by decide +kernel]
  omega
theorem ws_row {ws : List Str} (h : WsOk 3 ws) : RowOk (Txt.join (" " : Str) ws) := ⟨(wsP h).nl, by have := Nat.le_trans (join_le (a := (" " : Str)) (ys := ws)) (ws_sum h); omega⟩
theorem ws_wr : ∀ {xs : List WRow} (k : Nat), (∀ x ∈ xs, WsOk 3 x.2) → wr k (xs.map fun x => Txt.join (" " : Str) x.2) = nmb k (xs.map Prod.snd)
  | [], _, _ => rfl
  | x :: r, k, h => by
    have e := ws_words (h x (List.mem_cons_self ..))
    show (if rwds (Txt.join (" " : Str) x.2) = [] then wr (k + 1) (r.map fun x => Txt.join (" " : Str) x.2) else (k, rwds (Txt.join (" " : Str) x.2)) :: wr (k + 1) (r.map fun x => Txt.join (" " : Str) x.2)) = _
    rw [e, ws_wr (k + 1) fun y m => h y (List.mem_cons_of_mem _ m)]
    rfl

/-! ### law -/
abbrev s_law : Stmt := top 33
abbrev N_law : List Str := ["_law_script", "_law_rows_here", "_law_due_here", "_law_found", "_law_caught", "error", "_law_words"]
theorem sc_law : FnScope N_law ["_law_script"] (defScope s_law) := ⟨rfl, rfl, rfl, by decide +kernel, rfl, by decide +kernel, by decide +kernel⟩
def pr_law (K : PySem.W.Frag) : V → Hp → VK → XK → Prop := fun a0 H Q E => ∃ (a : Addr) (ns : List Int), a0 = .ref a ∧ SqL K H a (ns.map V.int) ∧ ns.length ≤ 63 ∧ ∀ H', Q (.bl true) H'
abbrev sp_law (K : PySem.W.Frag) : Sp := Sp1 (pr_law K)
theorem ok_law {P : Program} {w : World} {K : PySem.W.Frag} {mg : Str → Option Value} {base : Heap} {f : Addr} {fd : FuncData} (F : FunD K "law" "law" (defArgs s_law) (defBody s_law) (defScope s_law) [] [] f fd) (T : Txt K mg) (d__law_rows : Dn P w K mg base CX0 5 "_law_rows" ["_law_script"] [] (sp__law_rows K)) (d__law_due : Dn P w K mg base CX0 2 "_law_due" ["_law_rows_here"] [] (sp__law_due K)) (d_read_table : Dn P w K mg base (L2.CX P w) 4 "read_table" ["text"] [] (sp_read_table K)) (d__law_kind : Dn P w K mg base CX0 1 "_law_kind" ["_law_caught"] [] (sp__law_kind K)) : FnOk P w K mg base CX0 6 f fd ["_law_script"] (sp_law K) := by
  refine F.ok sc_law (fun vs H Q E h => len1 h) (fun cdv A outer s H vs Q E hr h => ?_)
  obtain ⟨a0, rfl, h⟩ := h
  have hu := hu_of hr
  refine ⟨_, PSs.nox ((pss_cons (ps_set (i := 1) sc_law.nd rfl (by first | exact Or.inl rfl | exact Or.inr rfl) (pe_d d__law_rows (hr.mono (by decide)) rfl pass0 (pa_cons (pv 0) pa_nil)))
      (pss_cons (ps_set (i := 2) sc_law.nd rfl (by first | exact Or.inl rfl | exact Or.inr rfl) (pe_d d__law_due (hr.mono (by decide)) rfl pass0 (pa_cons (pv 1) pa_nil)))
      (pss_cons (ps_set (i := 3) sc_law.nd rfl (by first | exact Or.inl rfl | exact Or.inr rfl) pe_non)
      (pss_cons (ps_set (i := 4) sc_law.nd rfl (by first | exact Or.inl rfl | exact Or.inr rfl) pe_non)
      (pss_cons (ps_try_asX (i := 5) rfl rfl sc_law.nd rfl rfl ⟨rfl, by decide, .inl T.c_BookError⟩ takes0 (fun W pn xe tk po => (pss_one (ps_set (i := 3) sc_law.nd rfl (by first | exact Or.inl rfl | exact Or.inr rfl) (pe_dS d_read_table (hr.mono (by decide)) rfl (fun σ => passAt tk σ) (pa_cons (pe_bmK (K := K) rfl PySem.F.plainAttrs_str PySem.F.slot_str_join PySem.F.type_str_join (mt_joinK (K := K) rfl) pe_str (pa_cons (pe_lc (own := [("_law_words", 6)]) rfl sc_law.nd (pi_K (K := K) rfl (pv 1)) (blkOk_by (N := N_law) (sc := defScope s_law) (own := [("_law_words", 6)]) (by decide +kernel)) (fun _ _ _ _ _ => (pg_name (i := 6) sc_law.nd rfl (by first | exact Or.inl rfl | exact Or.inr rfl))) (fun _ _ _ _ _ => pts_nil) (fun _ _ _ _ _ => (pe_bmK (K := K) rfl PySem.F.plainAttrs_str PySem.F.slot_str_join PySem.F.type_str_join (mt_joinK (K := K) rfl) pe_str (pa_cons (pv 6) pa_nil)))) pa_nil)) pa_nil))))) (fun a cls d pn => (pss_one (ps_set (i := 4) sc_law.nd rfl (by first | exact Or.inl rfl | exact Or.inr rfl) (pv 5)))))
      (pss_cons (ps_if (pt_cmpR (op_eqX hr.units) (pe_ix (ix_X hu) (pv 2) pe_int (fun _ _ => rfl)) pe_str (nomark _)) (pss_one (ps_ret (pe_and (pe_cmpR op_isX (pv 4) pe_non (nomark _)) (pe_one (pe_cmpR (op_eqX hr.units) (pv 3) (pe_ix (ix_X hu) (pv 2) pe_int (fun _ _ => rfl)) (nomark _)))))) pss_nil)
      (pss_cons (ps_if (PW.pt (pw_or (pt_cmpR op_isNotX (pv 3) pe_non (nomark _)) (pw_or1 (pt_cmpR (op_neX hr.units) (pe_d d__law_kind (hr.mono (by decide)) rfl pass0 (pa_cons (pv 4) pa_nil)) (pe_ix (ix_X hu) (pv 2) pe_int (fun _ _ => rfl)) (nomark _))))) (pss_one (ps_ret pe_bl)) pss_nil)
      (pss_one (ps_ret (pe_and (pe_callB call_isiX (by rfl) T.b_isinstance L2.A.boot_isinstance (pa_cons (pe_xq (K := K) rfl (pv 4)) (pa_cons (pe_bltn (v := .ty "int") (by rfl) T.b_int L2.A.boot_int rfl) pa_nil))) (pe_and (pe_not (pe_callB call_isiX (by rfl) T.b_isinstance L2.A.boot_isinstance (pa_cons (pe_xq (K := K) rfl (pv 4)) (pa_cons (pe_bltn (v := .ty "bool") (by rfl) T.b_bool L2.A.boot_bool rfl) pa_nil)))) (pe_one (pe_cmpR (op_eqX hr.units) (pe_xq (K := K) rfl (pv 4)) (pe_ix (ix_X hu) (pv 2) pe_int (fun _ _ => rfl)) (nomark _))))))))))))))), ?_⟩
  have exm_BadRow_BookError := T.exm_BadRow_BookError
  have exm_Falling_BookError := T.exm_Falling_BookError
  have exm_Misplaced_BookError := T.exm_Misplaced_BookError
  have exm_NoEntry_BookError := T.exm_NoEntry_BookError
  have exm_NotLet_BookError := T.exm_NotLet_BookError
  have exm_Twice_BookError := T.exm_Twice_BookError
  have exm_Unfinished_BookError := T.exm_Unfinished_BookError
  have nf_BadRow_place := T.nf_BadRow_place
  have nf_Falling_place := T.nf_Falling_place
  have nf_Misplaced_place := T.nf_Misplaced_place
  have nf_Twice_place := T.nf_Twice_place
  have nf_Unfinished_place := T.nf_Unfinished_place
  have xd_BadRow := T.xd_BadRow
  have xd_Falling := T.xd_Falling
  have xd_Misplaced := T.xd_Misplaced
  have xd_Twice := T.xd_Twice
  have xd_Unfinished := T.xd_Unfinished
  refine go_start (σ := [some a0, none, none, none, none, none, none]) rfl ?_
  try dsimp only [cxOf, Cx.nox, Cx.wish, Cx.tr, Cx.suite]
  obtain ⟨a, ns, rfl, hS, hn, hq⟩ := h
  walk_at "*"
  refine go_sp1 ⟨a, ns, rfl, hS, hn, fun f xs F s0 fF wi wo xn H1 s1 => ?_⟩
  walk_at "*"
  refine go_sp1 ⟨f, xs, rfl, s1 _ _ fF, wi.same s1, wo, xn, fun tb er t b ys F2 H2 sD' eT thT ev2 okT s2 => ?_, fun n er t F2 H2 sD' eT s2 => ?_, fun n er t F2 H2 sD' eT s2 => ?_, fun er t F2 H2 sD' eT s2 => ?_⟩
  all_goals have sD := s1.trans sD'
  · subst ev2
    have fx := sD _ _ fF
    have wx := wi.same sD
    have st0 : Sta F2 [] H2 := ⟨s2, .nil, fun _ m => nomatch m⟩
    walk_at "*"
    refine go_iL (.of (st0.of fx)) ?_
    refine LcW.accL xs (fun x => V.ref x.1) (fun pre => (pre.map fun x => Txt.join (" " : Str) x.2).map V.str) (by omega) st0 (fun F' H' s' st' => .of (st'.of (s' _ _ fx))) rfl ?_ ?_
    · rintro A pre x F' H' mx s' st' yes no hy hn
      have hx := st'.of (s' _ _ (wx x mx))
      refine go_name rfl ⟨rfl, ?_⟩
      walk_at "*"
      refine ⟨_, x.1, x.2, rfl, rfl, .inl (.of hx), by have := ws_sum (wo x mx); omega, ?_⟩
      exact hy _ _ _ (by rw [List.map_append, List.map_append]; rfl) (.refl _) st'
    rintro A F3 H3 s3 st3
    walk_at "*"
    refine ⟨_, A, xs.map (fun x => Txt.join (" " : Str) x.2), rfl, rfl, .inl (.of (st3.get (.head _))), ?_, ?_⟩
    · have h1 := join_len (rows := xs.map fun x => Txt.join (" " : Str) x.2) (L := 400) fun r m => by
        obtain ⟨x, mx, rfl⟩ := List.mem_map.mp m
        exact (ws_row (wo x mx)).len
      rw [List.length_map] at h1
      rw [show (Str.ofString "\n").length = 1 by decide +kernel, List.length_map]
      omega
    have tE := st3.of (s3 _ _ eT)
    walk_at "*"
    refine go_sp1 ⟨xs.map (fun x => Txt.join (" " : Str) x.2), rfl, fun r m => ?_, by rw [List.length_map]; omega, fun tb e f2 zs G H4 s4 ev st4 => ?_, fun n4 e d H4 s4 ed => ?_, fun n4 e d H4 s4 ed => ?_, fun e n4 en d H4 s4 ed => ?_⟩
    · obtain ⟨x, mx, rfl⟩ := List.mem_map.mp m
      exact ws_row (wo x mx)
    · have e2 := er.symm.trans ((congrArg (fun z => readTb z []) (ws_wr 1 wo).symm).trans e)
      injection e2 with e2
      subst e2
      have tE4 := s4.trans st4.fz _ _ tE
      walk_at "*"
      refine ite_T (by decide) ?_
      walk_at "*"
      refine ite_T (by decide) ?_
      have st4' : Sta G (tabC f2 zs ++ []) H4 := by rw [List.append_nil]; exact st4
      have hx4 := st4'.tab
      have hd1 : Dp K H4 (.ref f2) (.list ((vals ys).map dRow)) := by rw [← ev]; exact dp_tab hx4 (ev ▸ okT)
      walk_at "*"
      refine go_eqDs hd1 (dp_tab (((thT.same s3).same st3.fz).same (s4.trans st4.fz)) okT) (tab_shape okT).1 (tab_shape okT).2 ?_
      exact hq _
    · have e2 := er.symm.trans ((congrArg (fun z => readTb z []) (ws_wr 1 wo).symm).trans e); simp at e2
    · have e2 := er.symm.trans ((congrArg (fun z => readTb z []) (ws_wr 1 wo).symm).trans e); simp at e2
    · have e2 := er.symm.trans ((congrArg (fun z => readTb z []) (ws_wr 1 wo).symm).trans e); simp at e2
  · have fx := sD _ _ fF
    have wx := wi.same sD
    have st0 : Sta F2 [] H2 := ⟨s2, .nil, fun _ m => nomatch m⟩
    walk_at "*"
    refine go_iL (.of (st0.of fx)) ?_
    refine LcW.accL xs (fun x => V.ref x.1) (fun pre => (pre.map fun x => Txt.join (" " : Str) x.2).map V.str) (by omega) st0 (fun F' H' s' st' => .of (st'.of (s' _ _ fx))) rfl ?_ ?_
    · rintro A pre x F' H' mx s' st' yes no hy hn
      have hx := st'.of (s' _ _ (wx x mx))
      refine go_name rfl ⟨rfl, ?_⟩
      walk_at "*"
      refine ⟨_, x.1, x.2, rfl, rfl, .inl (.of hx), by have := ws_sum (wo x mx); omega, ?_⟩
      exact hy _ _ _ (by rw [List.map_append, List.map_append]; rfl) (.refl _) st'
    rintro A F3 H3 s3 st3
    walk_at "*"
    refine ⟨_, A, xs.map (fun x => Txt.join (" " : Str) x.2), rfl, rfl, .inl (.of (st3.get (.head _))), ?_, ?_⟩
    · have h1 := join_len (rows := xs.map fun x => Txt.join (" " : Str) x.2) (L := 400) fun r m => by
        obtain ⟨x, mx, rfl⟩ := List.mem_map.mp m
        exact (ws_row (wo x mx)).len
      rw [List.length_map] at h1
      rw [show (Str.ofString "\n").length = 1 by decide +kernel, List.length_map]
      omega
    have tE := st3.of (s3 _ _ eT)
    walk_at "*"
    refine go_sp1 ⟨xs.map (fun x => Txt.join (" " : Str) x.2), rfl, fun r m => ?_, by rw [List.length_map]; omega, fun tb e f2 zs G H4 s4 ev st4 => ?_, fun n4 e d H4 s4 ed => ?_, fun n4 e d H4 s4 ed => ?_, fun e n4 en d H4 s4 ed => ?_⟩
    · obtain ⟨x, mx, rfl⟩ := List.mem_map.mp m
      exact ws_row (wo x mx)
    · have e2 := er.symm.trans ((congrArg (fun z => readTb z []) (ws_wr 1 wo).symm).trans e); simp at e2
    · have e2 := er.symm.trans ((congrArg (fun z => readTb z []) (ws_wr 1 wo).symm).trans e)
      injection e2 with e2
      subst e2
      refine go_caughtX exm_BadRow_BookError fun x hx => ?_
      have sx : Same H4 (upd H4 x (exq x (.ref (He.ga K "BadRow")) (some d))) := same_new hx
      have ed5 := sx _ _ ed
      have ex5 : (upd H4 x (exq x (.ref (He.ga K "BadRow")) (some d))) x = _ := upd_same
      have tE5 := sx _ _ (s4 _ _ tE)
      generalize upd H4 x (exq x (.ref (He.ga K "BadRow")) (some d)) = H5 at ed5 ex5 tE5 sx
      walk_at "*"
      refine ite_F (by decide) ?_
      walk_at "*"
      refine ite_F (by decide) ?_
      walk_at "*"
      refine go_sp1 ⟨x, 0, _, rfl, by decide, ⟨d, ex5, ed5⟩, fun H6 s6 => ?_⟩
      have ed6 := s6 _ _ ed5
      have ex6 := s6 _ _ ex5
      have tE6 := s6 _ _ tE5
      clear ed5 ex5 tE5 ed tE eT
      walk_at "*"
      refine ite_F (by decide) ?_
      walk_at "*"
      exact ret_V (by simp) (hq _)
    · have e2 := er.symm.trans ((congrArg (fun z => readTb z []) (ws_wr 1 wo).symm).trans e); simp at e2
    · have e2 := er.symm.trans ((congrArg (fun z => readTb z []) (ws_wr 1 wo).symm).trans e); simp at e2
  · have fx := sD _ _ fF
    have wx := wi.same sD
    have st0 : Sta F2 [] H2 := ⟨s2, .nil, fun _ m => nomatch m⟩
    walk_at "*"
    refine go_iL (.of (st0.of fx)) ?_
    refine LcW.accL xs (fun x => V.ref x.1) (fun pre => (pre.map fun x => Txt.join (" " : Str) x.2).map V.str) (by omega) st0 (fun F' H' s' st' => .of (st'.of (s' _ _ fx))) rfl ?_ ?_
    · rintro A pre x F' H' mx s' st' yes no hy hn
      have hx := st'.of (s' _ _ (wx x mx))
      refine go_name rfl ⟨rfl, ?_⟩
      walk_at "*"
      refine ⟨_, x.1, x.2, rfl, rfl, .inl (.of hx), by have := ws_sum (wo x mx); omega, ?_⟩
      exact hy _ _ _ (by rw [List.map_append, List.map_append]; rfl) (.refl _) st'
    rintro A F3 H3 s3 st3
    walk_at "*"
    refine ⟨_, A, xs.map (fun x => Txt.join (" " : Str) x.2), rfl, rfl, .inl (.of (st3.get (.head _))), ?_, ?_⟩
    · have h1 := join_len (rows := xs.map fun x => Txt.join (" " : Str) x.2) (L := 400) fun r m => by
        obtain ⟨x, mx, rfl⟩ := List.mem_map.mp m
        exact (ws_row (wo x mx)).len
      rw [List.length_map] at h1
      rw [show (Str.ofString "\n").length = 1 by decide +kernel, List.length_map]
      omega
    have tE := st3.of (s3 _ _ eT)
    walk_at "*"
    refine go_sp1 ⟨xs.map (fun x => Txt.join (" " : Str) x.2), rfl, fun r m => ?_, by rw [List.length_map]; omega, fun tb e f2 zs G H4 s4 ev st4 => ?_, fun n4 e d H4 s4 ed => ?_, fun n4 e d H4 s4 ed => ?_, fun e n4 en d H4 s4 ed => ?_⟩
    · obtain ⟨x, mx, rfl⟩ := List.mem_map.mp m
      exact ws_row (wo x mx)
    · have e2 := er.symm.trans ((congrArg (fun z => readTb z []) (ws_wr 1 wo).symm).trans e); simp at e2
    · have e2 := er.symm.trans ((congrArg (fun z => readTb z []) (ws_wr 1 wo).symm).trans e); simp at e2
    · have e2 := er.symm.trans ((congrArg (fun z => readTb z []) (ws_wr 1 wo).symm).trans e)
      injection e2 with e2
      subst e2
      refine go_caughtX exm_Falling_BookError fun x hx => ?_
      have sx : Same H4 (upd H4 x (exq x (.ref (He.ga K "Falling")) (some d))) := same_new hx
      have ed5 := sx _ _ ed
      have ex5 : (upd H4 x (exq x (.ref (He.ga K "Falling")) (some d))) x = _ := upd_same
      have tE5 := sx _ _ (s4 _ _ tE)
      generalize upd H4 x (exq x (.ref (He.ga K "Falling")) (some d)) = H5 at ed5 ex5 tE5 sx
      walk_at "*"
      refine ite_F (by decide) ?_
      walk_at "*"
      refine ite_F (by decide) ?_
      walk_at "*"
      refine go_sp1 ⟨x, 4, _, rfl, by decide, ⟨d, ex5, ed5⟩, fun H6 s6 => ?_⟩
      have ed6 := s6 _ _ ed5
      have ex6 := s6 _ _ ex5
      have tE6 := s6 _ _ tE5
      clear ed5 ex5 tE5 ed tE eT
      walk_at "*"
      refine ite_F (by decide) ?_
      walk_at "*"
      exact ret_V (by simp) (hq _)
    · have e2 := er.symm.trans ((congrArg (fun z => readTb z []) (ws_wr 1 wo).symm).trans e); simp at e2
  · have fx := sD _ _ fF
    have wx := wi.same sD
    have st0 : Sta F2 [] H2 := ⟨s2, .nil, fun _ m => nomatch m⟩
    walk_at "*"
    refine go_iL (.of (st0.of fx)) ?_
    refine LcW.accL xs (fun x => V.ref x.1) (fun pre => (pre.map fun x => Txt.join (" " : Str) x.2).map V.str) (by omega) st0 (fun F' H' s' st' => .of (st'.of (s' _ _ fx))) rfl ?_ ?_
    · rintro A pre x F' H' mx s' st' yes no hy hn
      have hx := st'.of (s' _ _ (wx x mx))
      refine go_name rfl ⟨rfl, ?_⟩
      walk_at "*"
      refine ⟨_, x.1, x.2, rfl, rfl, .inl (.of hx), by have := ws_sum (wo x mx); omega, ?_⟩
      exact hy _ _ _ (by rw [List.map_append, List.map_append]; rfl) (.refl _) st'
    rintro A F3 H3 s3 st3
    walk_at "*"
    refine ⟨_, A, xs.map (fun x => Txt.join (" " : Str) x.2), rfl, rfl, .inl (.of (st3.get (.head _))), ?_, ?_⟩
    · have h1 := join_len (rows := xs.map fun x => Txt.join (" " : Str) x.2) (L := 400) fun r m => by
        obtain ⟨x, mx, rfl⟩ := List.mem_map.mp m
        exact (ws_row (wo x mx)).len
      rw [List.length_map] at h1
      rw [show (Str.ofString "\n").length = 1 by decide +kernel, List.length_map]
      omega
    have tE := st3.of (s3 _ _ eT)
    walk_at "*"
    refine go_sp1 ⟨xs.map (fun x => Txt.join (" " : Str) x.2), rfl, fun r m => ?_, by rw [List.length_map]; omega, fun tb e f2 zs G H4 s4 ev st4 => ?_, fun n4 e d H4 s4 ed => ?_, fun n4 e d H4 s4 ed => ?_, fun e n4 en d H4 s4 ed => ?_⟩
    · obtain ⟨x, mx, rfl⟩ := List.mem_map.mp m
      exact ws_row (wo x mx)
    · have e2 := er.symm.trans ((congrArg (fun z => readTb z []) (ws_wr 1 wo).symm).trans e); simp at e2
    · have e2 := er.symm.trans ((congrArg (fun z => readTb z []) (ws_wr 1 wo).symm).trans e); simp at e2
    · have e2 := er.symm.trans ((congrArg (fun z => readTb z []) (ws_wr 1 wo).symm).trans e); simp at e2
    · have e2 := er.symm.trans ((congrArg (fun z => readTb z []) (ws_wr 1 wo).symm).trans e)
      have en2 : (n4 : Int) = max 1 (xs.length : Int) := by
        rw [en]
        split
        · rename_i h; have := congrArg List.length h; simp at this; rw [this]; rfl
        · rename_i h; have := List.length_pos_iff.mpr h; rw [List.length_map] at this ⊢; omega
      rw [en2] at ed
      refine go_caughtX exm_Falling_BookError fun x hx => ?_
      have sx : Same H4 (upd H4 x (exq x (.ref (He.ga K "Falling")) (some d))) := same_new hx
      have ed5 := sx _ _ ed
      have ex5 : (upd H4 x (exq x (.ref (He.ga K "Falling")) (some d))) x = _ := upd_same
      have tE5 := sx _ _ (s4 _ _ tE)
      generalize upd H4 x (exq x (.ref (He.ga K "Falling")) (some d)) = H5 at ed5 ex5 tE5 sx
      walk_at "*"
      refine ite_F (by decide) ?_
      walk_at "*"
      refine ite_F (by decide) ?_
      walk_at "*"
      refine go_sp1 ⟨x, 4, _, rfl, by decide, ⟨d, ex5, ed5⟩, fun H6 s6 => ?_⟩
      have ed6 := s6 _ _ ed5
      have ex6 := s6 _ _ ex5
      have tE6 := s6 _ _ tE5
      clear ed5 ex5 tE5 ed tE eT
      walk_at "*"
      refine ite_F (by decide) ?_
      walk_at "*"
      exact ret_V (by simp) (hq _)
/-! ### the head -/
def D__law_mixed : He.DefD := ⟨("_law_mixed", none), "_law_mixed", "_law_mixed", defArgs s__law_mixed, defBody s__law_mixed, defScope s__law_mixed, [], []⟩
def D__law_take : He.DefD := ⟨("_law_take", none), "_law_take", "_law_take", defArgs s__law_take, defBody s__law_take, defScope s__law_take, [], []⟩
def D__law_pot : He.DefD := ⟨("_law_pot", none), "_law_pot", "_law_pot", defArgs s__law_pot, defBody s__law_pot, defScope s__law_pot, [], []⟩
def D__law_cell : He.DefD := ⟨("_law_cell", none), "_law_cell", "_law_cell", defArgs s__law_cell, defBody s__law_cell, defScope s__law_cell, [], []⟩
def D__law_table : He.DefD := ⟨("_law_table", none), "_law_table", "_law_table", defArgs s__law_table, defBody s__law_table, defScope s__law_table, [], []⟩
def D_all_of : He.DefD := ⟨("all_of", none), "all_of", "all_of", defArgs s_all_of, defBody s_all_of, defScope s_all_of, [], []⟩
def D_number_in : He.DefD := ⟨("number_in", none), "number_in", "number_in", defArgs s_number_in, defBody s_number_in, defScope s_number_in, [], []⟩
def D_BadRow_init : He.DefD := ⟨("BadRow", some "__init__"), "__init__", "BadRow.__init__", defArgs s_BadRow_init, defBody s_BadRow_init, defScope s_BadRow_init, [], []⟩
def D_Falling_init : He.DefD := ⟨("Falling", some "__init__"), "__init__", "Falling.__init__", defArgs s_Falling_init, defBody s_Falling_init, defScope s_Falling_init, [], []⟩
def D_shares_of : He.DefD := ⟨("shares_of", none), "shares_of", "shares_of", defArgs s_shares_of, defBody s_shares_of, defScope s_shares_of, [], []⟩
def D_look_falling : He.DefD := ⟨("look_falling", none), "look_falling", "look_falling", defArgs s_look_falling, defBody s_look_falling, defScope s_look_falling, [], []⟩
def D_read_table : He.DefD := ⟨("read_table", none), "read_table", "read_table", defArgs s_read_table, defBody s_read_table, defScope s_read_table, [], []⟩
def D__law_fault : He.DefD := ⟨("_law_fault", none), "_law_fault", "_law_fault", defArgs s__law_fault, defBody s__law_fault, defScope s__law_fault, [], []⟩
def D__law_number : He.DefD := ⟨("_law_number", none), "_law_number", "_law_number", defArgs s__law_number, defBody s__law_number, defScope s__law_number, [], []⟩
def D__law_bad_word : He.DefD := ⟨("_law_bad_word", none), "_law_bad_word", "_law_bad_word", defArgs s__law_bad_word, defBody s__law_bad_word, defScope s__law_bad_word, [], []⟩
def D__law_spoilt : He.DefD := ⟨("_law_spoilt", none), "_law_spoilt", "_law_spoilt", defArgs s__law_spoilt, defBody s__law_spoilt, defScope s__law_spoilt, [], []⟩
def D__law_rows : He.DefD := ⟨("_law_rows", none), "_law_rows", "_law_rows", defArgs s__law_rows, defBody s__law_rows, defScope s__law_rows, [], []⟩
def D__law_kind : He.DefD := ⟨("_law_kind", none), "_law_kind", "_law_kind", defArgs s__law_kind, defBody s__law_kind, defScope s__law_kind, [], []⟩
def D__law_due : He.DefD := ⟨("_law_due", none), "_law_due", "_law_due", defArgs s__law_due, defBody s__law_due, defScope s__law_due, [], []⟩
def D_law : He.DefD := ⟨("law", none), "law", "law", defArgs s_law, defBody s_law, defScope s_law, [], []⟩
def fn : List He.DefD := [D__law_mixed, D__law_take, D__law_pot, D__law_cell, D__law_table, D_all_of, D_number_in, D_BadRow_init, D_Falling_init, D_shares_of, D_look_falling, D_read_table, D__law_fault, D__law_number, D__law_bad_word, D__law_spoilt, D__law_rows, D__law_kind, D__law_due, D_law]
def fa : List He.Fa := [.glo "_law_mixed", .glo "_law_take", .glo "_law_pot", .glo "_law_cell", .glo "_law_table", .glo "all_of", .glo "number_in", .glo "BadRow", .glo "Falling", .glo "shares_of", .glo "look_falling", .glo "read_table", .glo "_law_fault", .glo "_law_number", .glo "_law_bad_word", .glo "_law_spoilt", .glo "_law_rows", .glo "_law_kind", .glo "_law_due", .glo "law", .free "ValueError", .free "all", .free "bool", .free "enumerate", .free "int", .free "isinstance", .free "len", .free "max", .free "min", .free "range", .free "reversed", .free "str", .int "MOST_COLUMNS" 11, .int "MOST_FIGURES" 4, .int "MOST_SHARE" 1000, .glo "BookError", .glo "Misplaced", .glo "NoEntry", .glo "NotLet", .glo "Twice", .glo "Unfinished"]
def xs : List (PySem.W.Frag → Bool) := [fun K => biB K (He.ga K "BookError"),
  fun K => decide (PySem.W.exmOne K (.ref (He.ga K "BadRow")) (.ref (He.ga K "BookError")) = some true),
  fun K => decide (PySem.W.exmOne K (.ref (He.ga K "Falling")) (.ref (He.ga K "BookError")) = some true),
  fun K => decide (PySem.W.exmOne K (.ref (He.ga K "Misplaced")) (.ref (He.ga K "BookError")) = some true),
  fun K => decide (PySem.W.exmOne K (.ref (He.ga K "NoEntry")) (.ref (He.ga K "BookError")) = some true),
  fun K => decide (PySem.W.exmOne K (.ref (He.ga K "NotLet")) (.ref (He.ga K "BookError")) = some true),
  fun K => decide (PySem.W.exmOne K (.ref (He.ga K "Twice")) (.ref (He.ga K "BookError")) = some true),
  fun K => decide (PySem.W.exmOne K (.ref (He.ga K "Unfinished")) (.ref (He.ga K "BookError")) = some true),
  fun K => decide (PySem.W.typeIn K (.ref (He.ma K (He.ga K "BadRow") "__init__")) = some (.type "function")),
  fun K => decide (PySem.W.typeIn K (.ref (He.ma K (He.ga K "Falling") "__init__")) = some (.type "function")),
  fun K => decide (PySem.W.findIn K (.ref (He.ga K "BadRow")) "__init__" = some (some (.ref (He.ma K (He.ga K "BadRow") "__init__")))),
  fun K => decide (PySem.W.findIn K (.ref (He.ga K "Falling")) "__init__" = some (some (.ref (He.ma K (He.ga K "Falling") "__init__")))),
  fun K => decide (PySem.W.kitOne K (.ref (He.ga K "BadRow")) (.ref (He.ga K "BadRow")) = some true),
  fun K => decide (PySem.W.kitOne K (.ref (He.ga K "BadRow")) (.ref (He.ga K "BookError")) = some true),
  fun K => decide (PySem.W.kitOne K (.ref (He.ga K "BadRow")) (.ref (He.ga K "Falling")) = some false),
  fun K => decide (PySem.W.kitOne K (.ref (He.ga K "BadRow")) (.ref (He.ga K "Misplaced")) = some false),
  fun K => decide (PySem.W.kitOne K (.ref (He.ga K "BadRow")) (.ref (He.ga K "NoEntry")) = some false),
  fun K => decide (PySem.W.kitOne K (.ref (He.ga K "BadRow")) (.ref (He.ga K "NotLet")) = some false),
  fun K => decide (PySem.W.kitOne K (.ref (He.ga K "BadRow")) (.ref (He.ga K "Twice")) = some false),
  fun K => decide (PySem.W.kitOne K (.ref (He.ga K "BadRow")) (.ref (He.ga K "Unfinished")) = some false),
  fun K => decide (PySem.W.kitOne K (.ref (He.ga K "BadRow")) (.type "ValueError") = some true),
  fun K => decide (PySem.W.kitOne K (.ref (He.ga K "Falling")) (.ref (He.ga K "BadRow")) = some false),
  fun K => decide (PySem.W.kitOne K (.ref (He.ga K "Falling")) (.ref (He.ga K "BookError")) = some true),
  fun K => decide (PySem.W.kitOne K (.ref (He.ga K "Falling")) (.ref (He.ga K "Falling")) = some true),
  fun K => decide (PySem.W.kitOne K (.ref (He.ga K "Falling")) (.ref (He.ga K "Misplaced")) = some false),
  fun K => decide (PySem.W.kitOne K (.ref (He.ga K "Falling")) (.ref (He.ga K "NoEntry")) = some false),
  fun K => decide (PySem.W.kitOne K (.ref (He.ga K "Falling")) (.ref (He.ga K "NotLet")) = some false),
  fun K => decide (PySem.W.kitOne K (.ref (He.ga K "Falling")) (.ref (He.ga K "Twice")) = some false),
  fun K => decide (PySem.W.kitOne K (.ref (He.ga K "Falling")) (.ref (He.ga K "Unfinished")) = some false),
  fun K => decide (PySem.W.kitOne K (.ref (He.ga K "Falling")) (.type "ValueError") = some true),
  fun K => decide (PySem.W.kitOne K (.ref (He.ga K "Misplaced")) (.ref (He.ga K "BadRow")) = some false),
  fun K => decide (PySem.W.kitOne K (.ref (He.ga K "Misplaced")) (.ref (He.ga K "BookError")) = some true),
  fun K => decide (PySem.W.kitOne K (.ref (He.ga K "Misplaced")) (.ref (He.ga K "Falling")) = some false),
  fun K => decide (PySem.W.kitOne K (.ref (He.ga K "Misplaced")) (.ref (He.ga K "Misplaced")) = some true),
  fun K => decide (PySem.W.kitOne K (.ref (He.ga K "Misplaced")) (.ref (He.ga K "NoEntry")) = some false),
  fun K => decide (PySem.W.kitOne K (.ref (He.ga K "Misplaced")) (.ref (He.ga K "NotLet")) = some false),
  fun K => decide (PySem.W.kitOne K (.ref (He.ga K "Misplaced")) (.ref (He.ga K "Twice")) = some false),
  fun K => decide (PySem.W.kitOne K (.ref (He.ga K "Misplaced")) (.ref (He.ga K "Unfinished")) = some false),
  fun K => decide (PySem.W.kitOne K (.ref (He.ga K "Misplaced")) (.type "ValueError") = some true),
  fun K => decide (PySem.W.kitOne K (.ref (He.ga K "NoEntry")) (.ref (He.ga K "BadRow")) = some false),
  fun K => decide (PySem.W.kitOne K (.ref (He.ga K "NoEntry")) (.ref (He.ga K "BookError")) = some true),
  fun K => decide (PySem.W.kitOne K (.ref (He.ga K "NoEntry")) (.ref (He.ga K "Falling")) = some false),
  fun K => decide (PySem.W.kitOne K (.ref (He.ga K "NoEntry")) (.ref (He.ga K "Misplaced")) = some false),
  fun K => decide (PySem.W.kitOne K (.ref (He.ga K "NoEntry")) (.ref (He.ga K "NoEntry")) = some true),
  fun K => decide (PySem.W.kitOne K (.ref (He.ga K "NoEntry")) (.ref (He.ga K "NotLet")) = some false),
  fun K => decide (PySem.W.kitOne K (.ref (He.ga K "NoEntry")) (.ref (He.ga K "Twice")) = some false),
  fun K => decide (PySem.W.kitOne K (.ref (He.ga K "NoEntry")) (.ref (He.ga K "Unfinished")) = some false),
  fun K => decide (PySem.W.kitOne K (.ref (He.ga K "NoEntry")) (.type "ValueError") = some true),
  fun K => decide (PySem.W.kitOne K (.ref (He.ga K "NotLet")) (.ref (He.ga K "BadRow")) = some false),
  fun K => decide (PySem.W.kitOne K (.ref (He.ga K "NotLet")) (.ref (He.ga K "BookError")) = some true),
  fun K => decide (PySem.W.kitOne K (.ref (He.ga K "NotLet")) (.ref (He.ga K "Falling")) = some false),
  fun K => decide (PySem.W.kitOne K (.ref (He.ga K "NotLet")) (.ref (He.ga K "Misplaced")) = some false),
  fun K => decide (PySem.W.kitOne K (.ref (He.ga K "NotLet")) (.ref (He.ga K "NoEntry")) = some false),
  fun K => decide (PySem.W.kitOne K (.ref (He.ga K "NotLet")) (.ref (He.ga K "NotLet")) = some true),
  fun K => decide (PySem.W.kitOne K (.ref (He.ga K "NotLet")) (.ref (He.ga K "Twice")) = some false),
  fun K => decide (PySem.W.kitOne K (.ref (He.ga K "NotLet")) (.ref (He.ga K "Unfinished")) = some false),
  fun K => decide (PySem.W.kitOne K (.ref (He.ga K "NotLet")) (.type "ValueError") = some true),
  fun K => decide (PySem.W.kitOne K (.ref (He.ga K "Twice")) (.ref (He.ga K "BadRow")) = some false),
  fun K => decide (PySem.W.kitOne K (.ref (He.ga K "Twice")) (.ref (He.ga K "BookError")) = some true),
  fun K => decide (PySem.W.kitOne K (.ref (He.ga K "Twice")) (.ref (He.ga K "Falling")) = some false),
  fun K => decide (PySem.W.kitOne K (.ref (He.ga K "Twice")) (.ref (He.ga K "Misplaced")) = some false),
  fun K => decide (PySem.W.kitOne K (.ref (He.ga K "Twice")) (.ref (He.ga K "NoEntry")) = some false),
  fun K => decide (PySem.W.kitOne K (.ref (He.ga K "Twice")) (.ref (He.ga K "NotLet")) = some false),
  fun K => decide (PySem.W.kitOne K (.ref (He.ga K "Twice")) (.ref (He.ga K "Twice")) = some true),
  fun K => decide (PySem.W.kitOne K (.ref (He.ga K "Twice")) (.ref (He.ga K "Unfinished")) = some false),
  fun K => decide (PySem.W.kitOne K (.ref (He.ga K "Twice")) (.type "ValueError") = some true),
  fun K => decide (PySem.W.kitOne K (.ref (He.ga K "Unfinished")) (.ref (He.ga K "BadRow")) = some false),
  fun K => decide (PySem.W.kitOne K (.ref (He.ga K "Unfinished")) (.ref (He.ga K "BookError")) = some true),
  fun K => decide (PySem.W.kitOne K (.ref (He.ga K "Unfinished")) (.ref (He.ga K "Falling")) = some false),
  fun K => decide (PySem.W.kitOne K (.ref (He.ga K "Unfinished")) (.ref (He.ga K "Misplaced")) = some false),
  fun K => decide (PySem.W.kitOne K (.ref (He.ga K "Unfinished")) (.ref (He.ga K "NoEntry")) = some false),
  fun K => decide (PySem.W.kitOne K (.ref (He.ga K "Unfinished")) (.ref (He.ga K "NotLet")) = some false),
  fun K => decide (PySem.W.kitOne K (.ref (He.ga K "Unfinished")) (.ref (He.ga K "Twice")) = some false),
  fun K => decide (PySem.W.kitOne K (.ref (He.ga K "Unfinished")) (.ref (He.ga K "Unfinished")) = some true),
  fun K => decide (PySem.W.kitOne K (.ref (He.ga K "Unfinished")) (.type "ValueError") = some true),
  fun K => decide (PySem.W.findIn K (.ref (He.ga K "BadRow")) "place" = some none),
  fun K => decide (PySem.W.findIn K (.ref (He.ga K "Falling")) "place" = some none),
  fun K => decide (PySem.W.findIn K (.ref (He.ga K "Misplaced")) "place" = some none),
  fun K => decide (PySem.W.findIn K (.ref (He.ga K "Twice")) "place" = some none),
  fun K => decide (PySem.W.findIn K (.ref (He.ga K "Unfinished")) "place" = some none),
  fun K => oexB K (He.ga K "BadRow"),
  fun K => oexB K (He.ga K "Falling"),
  fun K => excDB K (He.ga K "BadRow"),
  fun K => excDB K (He.ga K "Falling"),
  fun K => excDB K (He.ga K "Misplaced"),
  fun K => excDB K (He.ga K "NoEntry"),
  fun K => excDB K (He.ga K "NotLet"),
  fun K => excDB K (He.ga K "Twice"),
  fun K => excDB K (He.ga K "Unfinished")]
abbrev R : PySem.W.OpenRow := PySem.W.OpenLaw.row PySem.Challenge.rw_inningsbook_k61_tables_refused
abbrev hk : PySem.W.Hook := hookX 4 fa fn xs
def ob (s : PySem.W.SharedT) : Bool × He.AlD := obsXG 4 fa fn xs (HandSHeadRun.getT s)
theorem ob_eq (s : PySem.W.SharedT) : ob s = hk.obs s.abs := obsXG_eq (HandSHeadRun.getT_eq s)
abbrev loose : List Str := (["BookError", "BadRow", "Misplaced", "Twice", "Unfinished", "Falling", "NotLet", "NoEntry", "MOST_FIGURES", "all_of", "number_in", "MOST_SHARE", "MOST_COLUMNS", "shares_of", "look_falling", "read_table", "_law_cell", "_law_mixed", "_law_take", "_law_pot", "_law_fold", "_law_table", "_law_kind", "_law_bad_word", "_law_spoilt", "_law_rows", "_law_number", "_law_fault", "_law_due"] : List Str)
theorem run (w : World) : HandSHeadRun.RunEq R (PySem.W.view R.prog [33]) hk ob 4000 loose w := by
  intro os
  kernel_rfl
theorem facts {P : Program} {w : World} {K : PySem.W.Frag} {h : Heap} {mg : Str → Option Value} {f : Addr} (X : K.In h) (G : h.Ns mainGlobals mg) (hfa : mg ("law" : Str) = some (.ref f)) (c : He.SaysD fa fn K) (cx : (xs.all fun f => f K) = true) :
    ∃ fd : FuncData, (∀ (s : Shared) (v : Value), BindsTo s fd ⟨[v], []⟩ [("_law_script", v)]) ∧ ∀ base : Heap, K.In base → base.Ns mainGlobals mg → FnOk P w K mg base CX0 6 f fd ["_law_script"] (sp_law K) := by
  have T : Txt K mg := ⟨He.free_ok X G (c.fact 20 (f := .free "ValueError") rfl), He.free_ok X G (c.fact 21 (f := .free "all") rfl), He.free_ok X G (c.fact 22 (f := .free "bool") rfl), He.free_ok X G (c.fact 23 (f := .free "enumerate") rfl), He.free_ok X G (c.fact 24 (f := .free "int") rfl), He.free_ok X G (c.fact 25 (f := .free "isinstance") rfl), He.free_ok X G (c.fact 26 (f := .free "len") rfl), He.free_ok X G (c.fact 27 (f := .free "max") rfl), He.free_ok X G (c.fact 28 (f := .free "min") rfl), He.free_ok X G (c.fact 29 (f := .free "range") rfl), He.free_ok X G (c.fact 30 (f := .free "reversed") rfl), He.free_ok X G (c.fact 31 (f := .free "str") rfl), more_fact cx 0 (f := fun K => biB K (He.ga K "BookError")) rfl, He.glo_ok X G (c.fact 7 (f := .glo "BadRow") rfl), He.glo_ok X G (c.fact 35 (f := .glo "BookError") rfl), He.glo_ok X G (c.fact 8 (f := .glo "Falling") rfl), He.glo_ok X G (c.fact 36 (f := .glo "Misplaced") rfl), He.glo_ok X G (c.fact 37 (f := .glo "NoEntry") rfl), He.glo_ok X G (c.fact 38 (f := .glo "NotLet") rfl), He.glo_ok X G (c.fact 39 (f := .glo "Twice") rfl), He.glo_ok X G (c.fact 40 (f := .glo "Unfinished") rfl), of_decide_eq_true (more_fact cx 1 (f := fun K => decide (PySem.W.exmOne K (.ref (He.ga K "BadRow")) (.ref (He.ga K "BookError")) = some true)) rfl), of_decide_eq_true (more_fact cx 2 (f := fun K => decide (PySem.W.exmOne K (.ref (He.ga K "Falling")) (.ref (He.ga K "BookError")) = some true)) rfl), of_decide_eq_true (more_fact cx 3 (f := fun K => decide (PySem.W.exmOne K (.ref (He.ga K "Misplaced")) (.ref (He.ga K "BookError")) = some true)) rfl), of_decide_eq_true (more_fact cx 4 (f := fun K => decide (PySem.W.exmOne K (.ref (He.ga K "NoEntry")) (.ref (He.ga K "BookError")) = some true)) rfl), of_decide_eq_true (more_fact cx 5 (f := fun K => decide (PySem.W.exmOne K (.ref (He.ga K "NotLet")) (.ref (He.ga K "BookError")) = some true)) rfl), of_decide_eq_true (more_fact cx 6 (f := fun K => decide (PySem.W.exmOne K (.ref (He.ga K "Twice")) (.ref (He.ga K "BookError")) = some true)) rfl), of_decide_eq_true (more_fact cx 7 (f := fun K => decide (PySem.W.exmOne K (.ref (He.ga K "Unfinished")) (.ref (He.ga K "BookError")) = some true)) rfl), He.int_ok X G (c.fact 32 (f := .int "MOST_COLUMNS" 11) rfl), He.int_ok X G (c.fact 33 (f := .int "MOST_FIGURES" 4) rfl), He.int_ok X G (c.fact 34 (f := .int "MOST_SHARE" 1000) rfl), of_decide_eq_true (more_fact cx 12 (f := fun K => decide (PySem.W.kitOne K (.ref (He.ga K "BadRow")) (.ref (He.ga K "BadRow")) = some true)) rfl), of_decide_eq_true (more_fact cx 13 (f := fun K => decide (PySem.W.kitOne K (.ref (He.ga K "BadRow")) (.ref (He.ga K "BookError")) = some true)) rfl), of_decide_eq_true (more_fact cx 14 (f := fun K => decide (PySem.W.kitOne K (.ref (He.ga K "BadRow")) (.ref (He.ga K "Falling")) = some false)) rfl), of_decide_eq_true (more_fact cx 15 (f := fun K => decide (PySem.W.kitOne K (.ref (He.ga K "BadRow")) (.ref (He.ga K "Misplaced")) = some false)) rfl), of_decide_eq_true (more_fact cx 16 (f := fun K => decide (PySem.W.kitOne K (.ref (He.ga K "BadRow")) (.ref (He.ga K "NoEntry")) = some false)) rfl), of_decide_eq_true (more_fact cx 17 (f := fun K => decide (PySem.W.kitOne K (.ref (He.ga K "BadRow")) (.ref (He.ga K "NotLet")) = some false)) rfl), of_decide_eq_true (more_fact cx 18 (f := fun K => decide (PySem.W.kitOne K (.ref (He.ga K "BadRow")) (.ref (He.ga K "Twice")) = some false)) rfl), of_decide_eq_true (more_fact cx 19 (f := fun K => decide (PySem.W.kitOne K (.ref (He.ga K "BadRow")) (.ref (He.ga K "Unfinished")) = some false)) rfl), of_decide_eq_true (more_fact cx 20 (f := fun K => decide (PySem.W.kitOne K (.ref (He.ga K "BadRow")) (.type "ValueError") = some true)) rfl), of_decide_eq_true (more_fact cx 21 (f := fun K => decide (PySem.W.kitOne K (.ref (He.ga K "Falling")) (.ref (He.ga K "BadRow")) = some false)) rfl), of_decide_eq_true (more_fact cx 22 (f := fun K => decide (PySem.W.kitOne K (.ref (He.ga K "Falling")) (.ref (He.ga K "BookError")) = some true)) rfl), of_decide_eq_true (more_fact cx 23 (f := fun K => decide (PySem.W.kitOne K (.ref (He.ga K "Falling")) (.ref (He.ga K "Falling")) = some true)) rfl), of_decide_eq_true (more_fact cx 24 (f := fun K => decide (PySem.W.kitOne K (.ref (He.ga K "Falling")) (.ref (He.ga K "Misplaced")) = some false)) rfl), of_decide_eq_true (more_fact cx 25 (f := fun K => decide (PySem.W.kitOne K (.ref (He.ga K "Falling")) (.ref (He.ga K "NoEntry")) = some false)) rfl), of_decide_eq_true (more_fact cx 26 (f := fun K => decide (PySem.W.kitOne K (.ref (He.ga K "Falling")) (.ref (He.ga K "NotLet")) = some false)) rfl), of_decide_eq_true (more_fact cx 27 (f := fun K => decide (PySem.W.kitOne K (.ref (He.ga K "Falling")) (.ref (He.ga K "Twice")) = some false)) rfl), of_decide_eq_true (more_fact cx 28 (f := fun K => decide (PySem.W.kitOne K (.ref (He.ga K "Falling")) (.ref (He.ga K "Unfinished")) = some false)) rfl), of_decide_eq_true (more_fact cx 29 (f := fun K => decide (PySem.W.kitOne K (.ref (He.ga K "Falling")) (.type "ValueError") = some true)) rfl), of_decide_eq_true (more_fact cx 30 (f := fun K => decide (PySem.W.kitOne K (.ref (He.ga K "Misplaced")) (.ref (He.ga K "BadRow")) = some false)) rfl), of_decide_eq_true (more_fact cx 31 (f := fun K => decide (PySem.W.kitOne K (.ref (He.ga K "Misplaced")) (.ref (He.ga K "BookError")) = some true)) rfl), of_decide_eq_true (more_fact cx 32 (f := fun K => decide (PySem.W.kitOne K (.ref (He.ga K "Misplaced")) (.ref (He.ga K "Falling")) = some false)) rfl), of_decide_eq_true (more_fact cx 33 (f := fun K => decide (PySem.W.kitOne K (.ref (He.ga K "Misplaced")) (.ref (He.ga K "Misplaced")) = some true)) rfl), of_decide_eq_true (more_fact cx 34 (f := fun K => decide (PySem.W.kitOne K (.ref (He.ga K "Misplaced")) (.ref (He.ga K "NoEntry")) = some false)) rfl), of_decide_eq_true (more_fact cx 35 (f := fun K => decide (PySem.W.kitOne K (.ref (He.ga K "Misplaced")) (.ref (He.ga K "NotLet")) = some false)) rfl), of_decide_eq_true (more_fact cx 36 (f := fun K => decide (PySem.W.kitOne K (.ref (He.ga K "Misplaced")) (.ref (He.ga K "Twice")) = some false)) rfl), of_decide_eq_true (more_fact cx 37 (f := fun K => decide (PySem.W.kitOne K (.ref (He.ga K "Misplaced")) (.ref (He.ga K "Unfinished")) = some false)) rfl), of_decide_eq_true (more_fact cx 38 (f := fun K => decide (PySem.W.kitOne K (.ref (He.ga K "Misplaced")) (.type "ValueError") = some true)) rfl), of_decide_eq_true (more_fact cx 39 (f := fun K => decide (PySem.W.kitOne K (.ref (He.ga K "NoEntry")) (.ref (He.ga K "BadRow")) = some false)) rfl), of_decide_eq_true (more_fact cx 40 (f := fun K => decide (PySem.W.kitOne K (.ref (He.ga K "NoEntry")) (.ref (He.ga K "BookError")) = some true)) rfl), of_decide_eq_true (more_fact cx 41 (f := fun K => decide (PySem.W.kitOne K (.ref (He.ga K "NoEntry")) (.ref (He.ga K "Falling")) = some false)) rfl), of_decide_eq_true (more_fact cx 42 (f := fun K => decide (PySem.W.kitOne K (.ref (He.ga K "NoEntry")) (.ref (He.ga K "Misplaced")) = some false)) rfl), of_decide_eq_true (more_fact cx 43 (f := fun K => decide (PySem.W.kitOne K (.ref (He.ga K "NoEntry")) (.ref (He.ga K "NoEntry")) = some true)) rfl), of_decide_eq_true (more_fact cx 44 (f := fun K => decide (PySem.W.kitOne K (.ref (He.ga K "NoEntry")) (.ref (He.ga K "NotLet")) = some false)) rfl), of_decide_eq_true (more_fact cx 45 (f := fun K => decide (PySem.W.kitOne K (.ref (He.ga K "NoEntry")) (.ref (He.ga K "Twice")) = some false)) rfl), of_decide_eq_true (more_fact cx 46 (f := fun K => decide (PySem.W.kitOne K (.ref (He.ga K "NoEntry")) (.ref (He.ga K "Unfinished")) = some false)) rfl), of_decide_eq_true (more_fact cx 47 (f := fun K => decide (PySem.W.kitOne K (.ref (He.ga K "NoEntry")) (.type "ValueError") = some true)) rfl), of_decide_eq_true (more_fact cx 48 (f := fun K => decide (PySem.W.kitOne K (.ref (He.ga K "NotLet")) (.ref (He.ga K "BadRow")) = some false)) rfl), of_decide_eq_true (more_fact cx 49 (f := fun K => decide (PySem.W.kitOne K (.ref (He.ga K "NotLet")) (.ref (He.ga K "BookError")) = some true)) rfl), of_decide_eq_true (more_fact cx 50 (f := fun K => decide (PySem.W.kitOne K (.ref (He.ga K "NotLet")) (.ref (He.ga K "Falling")) = some false)) rfl), of_decide_eq_true (more_fact cx 51 (f := fun K => decide (PySem.W.kitOne K (.ref (He.ga K "NotLet")) (.ref (He.ga K "Misplaced")) = some false)) rfl), of_decide_eq_true (more_fact cx 52 (f := fun K => decide (PySem.W.kitOne K (.ref (He.ga K "NotLet")) (.ref (He.ga K "NoEntry")) = some false)) rfl), of_decide_eq_true (more_fact cx 53 (f := fun K => decide (PySem.W.kitOne K (.ref (He.ga K "NotLet")) (.ref (He.ga K "NotLet")) = some true)) rfl), of_decide_eq_true (more_fact cx 54 (f := fun K => decide (PySem.W.kitOne K (.ref (He.ga K "NotLet")) (.ref (He.ga K "Twice")) = some false)) rfl), of_decide_eq_true (more_fact cx 55 (f := fun K => decide (PySem.W.kitOne K (.ref (He.ga K "NotLet")) (.ref (He.ga K "Unfinished")) = some false)) rfl), of_decide_eq_true (more_fact cx 56 (f := fun K => decide (PySem.W.kitOne K (.ref (He.ga K "NotLet")) (.type "ValueError") = some true)) rfl), of_decide_eq_true (more_fact cx 57 (f := fun K => decide (PySem.W.kitOne K (.ref (He.ga K "Twice")) (.ref (He.ga K "BadRow")) = some false)) rfl), of_decide_eq_true (more_fact cx 58 (f := fun K => decide (PySem.W.kitOne K (.ref (He.ga K "Twice")) (.ref (He.ga K "BookError")) = some true)) rfl), of_decide_eq_true (more_fact cx 59 (f := fun K => decide (PySem.W.kitOne K (.ref (He.ga K "Twice")) (.ref (He.ga K "Falling")) = some false)) rfl), of_decide_eq_true (more_fact cx 60 (f := fun K => decide (PySem.W.kitOne K (.ref (He.ga K "Twice")) (.ref (He.ga K "Misplaced")) = some false)) rfl), of_decide_eq_true (more_fact cx 61 (f := fun K => decide (PySem.W.kitOne K (.ref (He.ga K "Twice")) (.ref (He.ga K "NoEntry")) = some false)) rfl), of_decide_eq_true (more_fact cx 62 (f := fun K => decide (PySem.W.kitOne K (.ref (He.ga K "Twice")) (.ref (He.ga K "NotLet")) = some false)) rfl), of_decide_eq_true (more_fact cx 63 (f := fun K => decide (PySem.W.kitOne K (.ref (He.ga K "Twice")) (.ref (He.ga K "Twice")) = some true)) rfl), of_decide_eq_true (more_fact cx 64 (f := fun K => decide (PySem.W.kitOne K (.ref (He.ga K "Twice")) (.ref (He.ga K "Unfinished")) = some false)) rfl), of_decide_eq_true (more_fact cx 65 (f := fun K => decide (PySem.W.kitOne K (.ref (He.ga K "Twice")) (.type "ValueError") = some true)) rfl), of_decide_eq_true (more_fact cx 66 (f := fun K => decide (PySem.W.kitOne K (.ref (He.ga K "Unfinished")) (.ref (He.ga K "BadRow")) = some false)) rfl), of_decide_eq_true (more_fact cx 67 (f := fun K => decide (PySem.W.kitOne K (.ref (He.ga K "Unfinished")) (.ref (He.ga K "BookError")) = some true)) rfl), of_decide_eq_true (more_fact cx 68 (f := fun K => decide (PySem.W.kitOne K (.ref (He.ga K "Unfinished")) (.ref (He.ga K "Falling")) = some false)) rfl), of_decide_eq_true (more_fact cx 69 (f := fun K => decide (PySem.W.kitOne K (.ref (He.ga K "Unfinished")) (.ref (He.ga K "Misplaced")) = some false)) rfl), of_decide_eq_true (more_fact cx 70 (f := fun K => decide (PySem.W.kitOne K (.ref (He.ga K "Unfinished")) (.ref (He.ga K "NoEntry")) = some false)) rfl), of_decide_eq_true (more_fact cx 71 (f := fun K => decide (PySem.W.kitOne K (.ref (He.ga K "Unfinished")) (.ref (He.ga K "NotLet")) = some false)) rfl), of_decide_eq_true (more_fact cx 72 (f := fun K => decide (PySem.W.kitOne K (.ref (He.ga K "Unfinished")) (.ref (He.ga K "Twice")) = some false)) rfl), of_decide_eq_true (more_fact cx 73 (f := fun K => decide (PySem.W.kitOne K (.ref (He.ga K "Unfinished")) (.ref (He.ga K "Unfinished")) = some true)) rfl), of_decide_eq_true (more_fact cx 74 (f := fun K => decide (PySem.W.kitOne K (.ref (He.ga K "Unfinished")) (.type "ValueError") = some true)) rfl), of_decide_eq_true (more_fact cx 75 (f := fun K => decide (PySem.W.findIn K (.ref (He.ga K "BadRow")) "place" = some none)) rfl), of_decide_eq_true (more_fact cx 76 (f := fun K => decide (PySem.W.findIn K (.ref (He.ga K "Falling")) "place" = some none)) rfl), of_decide_eq_true (more_fact cx 77 (f := fun K => decide (PySem.W.findIn K (.ref (He.ga K "Misplaced")) "place" = some none)) rfl), of_decide_eq_true (more_fact cx 78 (f := fun K => decide (PySem.W.findIn K (.ref (He.ga K "Twice")) "place" = some none)) rfl), of_decide_eq_true (more_fact cx 79 (f := fun K => decide (PySem.W.findIn K (.ref (He.ga K "Unfinished")) "place" = some none)) rfl), oexB_ok (more_fact cx 80 (f := fun K => oexB K (He.ga K "BadRow")) rfl), oexB_ok (more_fact cx 81 (f := fun K => oexB K (He.ga K "Falling")) rfl), excDB_ok (more_fact cx 82 (f := fun K => excDB K (He.ga K "BadRow")) rfl), excDB_ok (more_fact cx 83 (f := fun K => excDB K (He.ga K "Falling")) rfl), excDB_ok (more_fact cx 84 (f := fun K => excDB K (He.ga K "Misplaced")) rfl), excDB_ok (more_fact cx 85 (f := fun K => excDB K (He.ga K "NoEntry")) rfl), excDB_ok (more_fact cx 86 (f := fun K => excDB K (He.ga K "NotLet")) rfl), excDB_ok (more_fact cx 87 (f := fun K => excDB K (He.ga K "Twice")) rfl), excDB_ok (more_fact cx 88 (f := fun K => excDB K (He.ga K "Unfinished")) rfl)⟩
  obtain ⟨fd__law_mixed, F__law_mixed⟩ := c.def_ 0 (d := D__law_mixed) rfl
  obtain ⟨fd__law_take, F__law_take⟩ := c.def_ 1 (d := D__law_take) rfl
  obtain ⟨fd__law_pot, F__law_pot⟩ := c.def_ 2 (d := D__law_pot) rfl
  obtain ⟨fd__law_cell, F__law_cell⟩ := c.def_ 3 (d := D__law_cell) rfl
  obtain ⟨fd__law_table, F__law_table⟩ := c.def_ 4 (d := D__law_table) rfl
  obtain ⟨fd_all_of, F_all_of⟩ := c.def_ 5 (d := D_all_of) rfl
  obtain ⟨fd_number_in, F_number_in⟩ := c.def_ 6 (d := D_number_in) rfl
  obtain ⟨fd_BadRow_init, F_BadRow_init⟩ := c.def_ 7 (d := D_BadRow_init) rfl
  obtain ⟨fd_Falling_init, F_Falling_init⟩ := c.def_ 8 (d := D_Falling_init) rfl
  obtain ⟨fd_shares_of, F_shares_of⟩ := c.def_ 9 (d := D_shares_of) rfl
  obtain ⟨fd_look_falling, F_look_falling⟩ := c.def_ 10 (d := D_look_falling) rfl
  obtain ⟨fd_read_table, F_read_table⟩ := c.def_ 11 (d := D_read_table) rfl
  obtain ⟨fd__law_fault, F__law_fault⟩ := c.def_ 12 (d := D__law_fault) rfl
  obtain ⟨fd__law_number, F__law_number⟩ := c.def_ 13 (d := D__law_number) rfl
  obtain ⟨fd__law_bad_word, F__law_bad_word⟩ := c.def_ 14 (d := D__law_bad_word) rfl
  obtain ⟨fd__law_spoilt, F__law_spoilt⟩ := c.def_ 15 (d := D__law_spoilt) rfl
  obtain ⟨fd__law_rows, F__law_rows⟩ := c.def_ 16 (d := D__law_rows) rfl
  obtain ⟨fd__law_kind, F__law_kind⟩ := c.def_ 17 (d := D__law_kind) rfl
  obtain ⟨fd__law_due, F__law_due⟩ := c.def_ 18 (d := D__law_due) rfl
  obtain ⟨fd_law, F_law⟩ := c.def_ 19 (d := D_law) rfl
  have e := hfa.symm.trans (He.glo_ok X G (c.fact 19 (f := .glo "law") rfl))
  cases e
  have b := FunD.bindsA (ps := ["_law_script"]) F_law fun _ _ _ _ _ _ us hl => match us, hl with | [_], _ => rfl
  refine ⟨fd_law, fun s v => b s [v] rfl, fun base hb hn => ?_⟩
  have d__law_mixed : Dn P w K mg base CX0 1 "_law_mixed" ["_law_cell_here", "_law_k"] [] (sp__law_mixed K) := ⟨⟨_, _, [], ok__law_mixed F__law_mixed T , He.glo_ok X G (c.fact 0 (f := .glo "_law_mixed") rfl), F__law_mixed.kp, FunD.bindsN F__law_mixed fun _ _ _ _ _ _ us hl => match us, hl with | [_, _], _ => rfl, .nil⟩⟩
  have d__law_take : Dn P w K mg base CX0 2 "_law_take" ["_law_pot_here", "_law_many"] [] (sp__law_take K) := ⟨⟨_, _, [], ok__law_take F__law_take T d__law_mixed, He.glo_ok X G (c.fact 1 (f := .glo "_law_take") rfl), F__law_take.kp, FunD.bindsN F__law_take fun _ _ _ _ _ _ us hl => match us, hl with | [_, _], _ => rfl, .nil⟩⟩
  have d__law_pot : Dn P w K mg base CX0 1 "_law_pot" ["_law_cell_here"] [] (sp__law_pot K) := ⟨⟨_, _, [], ok__law_pot F__law_pot T , He.glo_ok X G (c.fact 2 (f := .glo "_law_pot") rfl), F__law_pot.kp, FunD.bindsN F__law_pot fun _ _ _ _ _ _ us hl => match us, hl with | [_], _ => rfl, .nil⟩⟩
  have d__law_cell : Dn P w K mg base CX0 1 "_law_cell" ["_law_script", "_law_k"] [] (sp__law_cell K) := ⟨⟨_, _, [], ok__law_cell F__law_cell T , He.glo_ok X G (c.fact 3 (f := .glo "_law_cell") rfl), F__law_cell.kp, FunD.bindsN F__law_cell fun _ _ _ _ _ _ us hl => match us, hl with | [_, _], _ => rfl, .nil⟩⟩
  have d__law_table : Dn P w K mg base CX0 3 "_law_table" ["_law_script"] [] (sp__law_table K) := ⟨⟨_, _, [], ok__law_table F__law_table T d__law_pot d__law_cell d__law_take, He.glo_ok X G (c.fact 4 (f := .glo "_law_table") rfl), F__law_table.kp, FunD.bindsN F__law_table fun _ _ _ _ _ _ us hl => match us, hl with | [_], _ => rfl, .nil⟩⟩
  have d_all_of : Dn P w K mg base CX0 1 "all_of" ["word", "some"] [] (sp_all_of K) := ⟨⟨_, _, [], ok_all_of F_all_of T , He.glo_ok X G (c.fact 5 (f := .glo "all_of") rfl), F_all_of.kp, FunD.bindsN F_all_of fun _ _ _ _ _ _ us hl => match us, hl with | [_, _], _ => rfl, .nil⟩⟩
  have d_number_in : Dn P w K mg base CX0 2 "number_in" ["word"] [] (sp_number_in K) := ⟨⟨_, _, [], ok_number_in F_number_in T d_all_of, He.glo_ok X G (c.fact 6 (f := .glo "number_in") rfl), F_number_in.kp, FunD.bindsN F_number_in fun _ _ _ _ _ _ us hl => match us, hl with | [_], _ => rfl, .nil⟩⟩
  have ok_BadRow_init' := ok_BadRow_init (P := P) (w := w) (base := base) F_BadRow_init T 
  obtain ⟨ds_x_BadRow_2, hv_x_BadRow_2, hb_x_BadRow_2⟩ := (⟨[], .nil, FunD.bindsN F_BadRow_init fun _ _ _ _ _ _ us hl => match us, hl with | [_, _, _], _ => rfl⟩ : ∃ ds, Vals [] ds ∧ Binds K fd_BadRow_init ["self", "words", "place"] ds)
  have x_BadRow_2 : XkD P w K mg base 1 (He.ga K "BadRow") "BadRow" ["self", "words", "place"] [] (sp_BadRow_init K) := ⟨⟨_, _, ds_x_BadRow_2, ok_BadRow_init', T.oex_BadRow, of_decide_eq_true (more_fact cx 10 (f := fun K => decide (PySem.W.findIn K (.ref (He.ga K "BadRow")) "__init__" = some (some (.ref (He.ma K (He.ga K "BadRow") "__init__"))))) rfl), of_decide_eq_true (more_fact cx 8 (f := fun K => decide (PySem.W.typeIn K (.ref (He.ma K (He.ga K "BadRow") "__init__")) = some (.type "function"))) rfl), He.glo_ok X G (c.fact 7 (f := .glo "BadRow") rfl), hb_x_BadRow_2, hv_x_BadRow_2⟩⟩
  have ok_Falling_init' := ok_Falling_init (P := P) (w := w) (base := base) F_Falling_init T 
  obtain ⟨ds_x_Falling_2, hv_x_Falling_2, hb_x_Falling_2⟩ := (⟨[], .nil, FunD.bindsN F_Falling_init fun _ _ _ _ _ _ us hl => match us, hl with | [_, _, _], _ => rfl⟩ : ∃ ds, Vals [] ds ∧ Binds K fd_Falling_init ["self", "words", "place"] ds)
  have x_Falling_2 : XkD P w K mg base 1 (He.ga K "Falling") "Falling" ["self", "words", "place"] [] (sp_Falling_init K) := ⟨⟨_, _, ds_x_Falling_2, ok_Falling_init', T.oex_Falling, of_decide_eq_true (more_fact cx 11 (f := fun K => decide (PySem.W.findIn K (.ref (He.ga K "Falling")) "__init__" = some (some (.ref (He.ma K (He.ga K "Falling") "__init__"))))) rfl), of_decide_eq_true (more_fact cx 9 (f := fun K => decide (PySem.W.typeIn K (.ref (He.ma K (He.ga K "Falling") "__init__")) = some (.type "function"))) rfl), He.glo_ok X G (c.fact 8 (f := .glo "Falling") rfl), hb_x_Falling_2, hv_x_Falling_2⟩⟩
  have d_shares_of : Dn P w K mg base (L2.CX P w) 3 "shares_of" ["words", "place"] [] (sp_shares_of K) := ⟨⟨_, _, [], ok_shares_of F_shares_of T d_number_in x_BadRow_2, He.glo_ok X G (c.fact 9 (f := .glo "shares_of") rfl), F_shares_of.kp, FunD.bindsN F_shares_of fun _ _ _ _ _ _ us hl => match us, hl with | [_, _], _ => rfl, .nil⟩⟩
  have d_look_falling : Dn P w K mg base (L2.CX P w) 3 "look_falling" ["table", "shares", "place"] [] (sp_look_falling K) := ⟨⟨_, _, [], ok_look_falling F_look_falling T x_Falling_2, He.glo_ok X G (c.fact 10 (f := .glo "look_falling") rfl), F_look_falling.kp, FunD.bindsN F_look_falling fun _ _ _ _ _ _ us hl => match us, hl with | [_, _, _], _ => rfl, .nil⟩⟩
  have d_read_table : Dn P w K mg base (L2.CX P w) 4 "read_table" ["text"] [] (sp_read_table K) := ⟨⟨_, _, [], ok_read_table F_read_table T d_shares_of d_look_falling x_BadRow_2 x_Falling_2, He.glo_ok X G (c.fact 11 (f := .glo "read_table") rfl), F_read_table.kp, FunD.bindsN F_read_table fun _ _ _ _ _ _ us hl => match us, hl with | [_], _ => rfl, .nil⟩⟩
  have d__law_fault : Dn P w K mg base CX0 1 "_law_fault" ["_law_table_here", "_law_shares"] [] (sp__law_fault K) := ⟨⟨_, _, [], ok__law_fault F__law_fault T , He.glo_ok X G (c.fact 12 (f := .glo "_law_fault") rfl), F__law_fault.kp, FunD.bindsN F__law_fault fun _ _ _ _ _ _ us hl => match us, hl with | [_, _], _ => rfl, .nil⟩⟩
  have d__law_number : Dn P w K mg base CX0 1 "_law_number" ["_law_word"] [] (sp__law_number K) := ⟨⟨_, _, [], ok__law_number F__law_number T , He.glo_ok X G (c.fact 13 (f := .glo "_law_number") rfl), F__law_number.kp, FunD.bindsN F__law_number fun _ _ _ _ _ _ us hl => match us, hl with | [_], _ => rfl, .nil⟩⟩
  have d__law_bad_word : Dn P w K mg base CX0 3 "_law_bad_word" ["_law_pot_here", "_law_word"] [] (sp__law_bad_word K) := ⟨⟨_, _, [], ok__law_bad_word F__law_bad_word T d__law_take, He.glo_ok X G (c.fact 14 (f := .glo "_law_bad_word") rfl), F__law_bad_word.kp, FunD.bindsN F__law_bad_word fun _ _ _ _ _ _ us hl => match us, hl with | [_, _], _ => rfl, .nil⟩⟩
  have d__law_spoilt : Dn P w K mg base CX0 4 "_law_spoilt" ["_law_words", "_law_pot_here"] [] (sp__law_spoilt K) := ⟨⟨_, _, [], ok__law_spoilt F__law_spoilt T d__law_take d__law_bad_word, He.glo_ok X G (c.fact 15 (f := .glo "_law_spoilt") rfl), F__law_spoilt.kp, FunD.bindsN F__law_spoilt fun _ _ _ _ _ _ us hl => match us, hl with | [_, _], _ => rfl, .nil⟩⟩
  have d__law_rows : Dn P w K mg base CX0 5 "_law_rows" ["_law_script"] [] (sp__law_rows K) := ⟨⟨_, _, [], ok__law_rows F__law_rows T d__law_pot d__law_take d__law_table d__law_cell d__law_spoilt, He.glo_ok X G (c.fact 16 (f := .glo "_law_rows") rfl), F__law_rows.kp, FunD.bindsN F__law_rows fun _ _ _ _ _ _ us hl => match us, hl with | [_], _ => rfl, .nil⟩⟩
  have d__law_kind : Dn P w K mg base CX0 1 "_law_kind" ["_law_caught"] [] (sp__law_kind K) := ⟨⟨_, _, [], ok__law_kind F__law_kind T , He.glo_ok X G (c.fact 17 (f := .glo "_law_kind") rfl), F__law_kind.kp, FunD.bindsN F__law_kind fun _ _ _ _ _ _ us hl => match us, hl with | [_], _ => rfl, .nil⟩⟩
  have d__law_due : Dn P w K mg base CX0 2 "_law_due" ["_law_rows_here"] [] (sp__law_due K) := ⟨⟨_, _, [], ok__law_due F__law_due T d__law_fault d__law_number, He.glo_ok X G (c.fact 18 (f := .glo "_law_due") rfl), F__law_due.kp, FunD.bindsN F__law_due fun _ _ _ _ _ _ us hl => match us, hl with | [_], _ => rfl, .nil⟩⟩
  exact ok_law F_law T d__law_rows d__law_due d_read_table d__law_kind
end L2.Toy
open PySem PySem.W PySem.Calls PyProof.Rows
set_option maxRecDepth 100000 in
set_option maxHeartbeats 0 in
theorem PySem.Challenge.cw_inningsbook_k61_tables_refused_holds : PySem.Challenge.rw_inningsbook_k61_tables_refused.Holds := by
  w_on; o_law
  refine HandSHeadRun.head_any (r := OpenLaw.row PySem.Challenge.rw_inningsbook_k61_tables_refused) (q := view (OpenLaw.row PySem.Challenge.rw_inningsbook_k61_tables_refused).prog [33]) (H := L2.Toy.hk) (ob := L2.Toy.ob) (M := 4000) (loose := L2.Toy.loose) (d := HandSHeadRun.topDef (OpenLaw.row PySem.Challenge.rw_inningsbook_k61_tables_refused).prog 33) (kwd := []) L2.Toy.ob_eq
    (by kernel_rfl) (fun s => by kernel_rfl) L2.Toy.run (by kernel_rfl) (by kernel_rfl) (by kernel_rfl) (by rfl) (by first | assumption | decide +kernel) (by decide +kernel) ⟨rfl, rfl, rfl, rfl, rfl, by decide +kernel⟩ ?hw ?hc
  case hw => w_witness2
  case hc =>
    refine L2.walk_ofE (l := PySem.Challenge.rw_inningsbook_k61_tables_refused) (n := 63) (k := 6) (x := "_law_script") (CX := L2.CX0) rfl (by decide) (by kernel_rfl) ⟨rfl, by decide, by decide⟩ ?F (fun _ _ _ _ z => z)
    intro w mg fa h Y G hmg0
    obtain ⟨K, KX, c, cx⟩ := Y
    have hmg : mg ("law" : PySem.Str) = some (.ref fa) := by
      have e : (HandSHeadRun.topDef (OpenLaw.row PySem.Challenge.rw_inningsbook_k61_tables_refused).prog 33).name = ("law" : PySem.Str) := by kernel_rfl
      rw [← e]
      exact hmg0
    obtain ⟨fd, hb, hF⟩ := L2.Toy.facts (P := (PySem.Challenge.rw_inningsbook_k61_tables_refused).prog) (w := w) KX G hmg c cx
    exact ⟨K, fd, L2.Toy.sp_law K, KX, hb, fun H a ns hl _ hS => ⟨L2.V.ref a, rfl, a, ns, rfl, hS, hl, fun _ => rfl⟩, hF⟩
#print axioms PySem.Challenge.cw_inningsbook_k61_tables_refused_holds

