import PyProof.Rows.All
import Wide.All
import OpenK.AllK
import Wide.FinOn
import KE.KStateDown
import Lean
import HandS.ForMost
import HandS.Steps
import HandS.IsInst
import HandS.More
import HandS.Exc
import HandS.WordsExc
import HandS.Defaults
import HandS.Head0
import HandS.Head1
import HandS.Head2
import HandS.HeadEnd
import HandS.HeadHook1
import HandS.HeadHook2
import HandS.Style
import HandS.TupLe
import HandS.Rev
import HandS.RevRange
import HandS.DictTup
import HandS.RaiseFrom
import HandS.SuiteRaise
import HandS.SetKeys
import HandS.ExcInit
import HandS.ExcField
import HandS.Walk
import KE.KxText
import HandS.CallSlots
import HandS.ExcIs
import KE.KExcIs
import HandS.TryOnly
import HandS.TryMany
import HandS.ExcOwn
import KE.GoesEnumKw
import HandS.Zip
import HandS.Strs
import HandS.SortInts
import PyProof.DictMoreH
import KE.KTupSum
import KE.KDictZip
import HandS.RaiseMore
import HandS.Wide
import KE.SortData
import PySem.Challenge.RW_inningsbook_k74_whole_games_any_way_abou
set_option Elab.async false
set_option linter.all false
set_option maxRecDepth 100000
set_option maxHeartbeats 4000000

namespace L2.A
open PySem PySem.Spec PyProof.Rows
/-! a layer of our own over HandS: defs by name, operators for every kind of value, one step a construct -/
/-- what is at fp may change, the rest stays -/
def Kp (fp : Addr → Prop) (H H' : Hp) : Prop := ∀ a o, H a = some o → ¬ fp a → H' a = some o
theorem Kp.same {fp : Addr → Prop} {H H' : Hp} (h : Same H H') : Kp fp H H' := fun a o e _ => h a o e
theorem Kp.refl {fp : Addr → Prop} {H : Hp} : Kp fp H H := fun _ _ e _ => e
theorem Kp.trans {fp : Addr → Prop} {H H1 H2 : Hp} (a : Kp fp H H1) (b : Kp fp H1 H2) : Kp fp H H2 := fun x o e n => b x o (a x o e n) n
theorem Kp.upd {H : Hp} {p : Addr} {o : HO} : Kp (fun a => a = p) H (upd H p o) := fun a u e n => by rw [upd_ne n]; exact e
theorem same_new {H : Hp} {p : Addr} {o : HO} (h : H p = none) : Same H (upd H p o) := fun a u e => by rw [upd_ne (ne_of_none e h)]; exact e
theorem same_new2 {H H' : Hp} {p : Addr} {o : HO} (s : Same H H') (h : H' p = none) : Same H (upd H' p o) := s.trans (same_new h)
/-- an object that H does not know may change -/
theorem same_mut {H H' : Hp} {p : Addr} {o : HO} (s : Same H H') (h : H p = none) : Same H (upd H' p o) := fun a u e => by rw [upd_ne (ne_of_none e h)]; exact s a u e
theorem same_kp {H H1 H2 : Hp} {p : Addr} (s : Same H H1) (k : Kp (fun a => a = p) H1 H2) (h : H p = none) : Same H H2 := fun a o e => k a o (s a o e) (ne_of_none e h)
theorem ge_same {H H' : Hp} {a : Addr} {o : HO} (s : Same H H') (h : H a = some o) : H' a = some o := s a o h

section
variable {P : Program} {w : World} {K : PySem.W.Frag} {mg : Str → Option Value} {base : Heap} {CX : CXT} {k : Nat}
/-- a def of the top by its name -/
structure Dn (P : Program) (w : World) (K : PySem.W.Frag) (mg : Str → Option Value) (base : Heap) (CX : CXT) (k : Nat) (x : Str) (ps : List Str) (dvs : List V) (sp : Sp) : Prop where
  ex : ∃ (f : Addr) (fd : FuncData) (ds : List Value), FnOk P w K mg base CX k f fd ps sp ∧ mg x = some (.ref f) ∧ PySem.W.keepIn K (.ref f) = true ∧ Binds K fd ps ds ∧ Vals dvs ds
end
section
variable {X : Cx} {CX : CXT} {k : Nat} {ps : List Str} {dvs : List V} {sp : Sp} {E : XK} {x : Str} {p pos : Pos} {e : Expr} {es : List Expr} {t : TA}
theorem pe_d (D : Dn X.prog X.w X.K X.mg X.base CX k x ps dvs sp) (hr : Room k X.A) (hg : Gl X x) (hx : Passes CX X E) (ha : PA X (e :: es) t) (hdb : (x == ("__debug__" : Str)) = false := by decide)
    (he : starEach (e :: es) X.env = (false, eval e X.env) :: starEach es X.env := by rfl) (hpl : (backTo pos (starEach es X.env)).any (·.1) = false := by rfl) : PE X (.Call (.Name x p) (e :: es) [] pos) (tCall sp dvs E t) := by
  obtain ⟨f, fd, ds, F, hm, hk, hb, hv⟩ := D.ex
  exact pe_call F hr hg hm hk hb hv hx ha hdb he hpl
theorem pe_d0 (D : Dn X.prog X.w X.K X.mg X.base CX k x ps dvs sp) (hr : Room k X.A) (hg : Gl X x) (hx : Passes CX X E) (hdb : (x == ("__debug__" : Str)) = false := by decide) : PE X (.Call (.Name x p) [] [] pos) (tCall sp dvs E tNil) := by
  obtain ⟨f, fd, ds, F, hm, hk, hb, hv⟩ := D.ex
  exact pe_call0 F hr hg hm hk hb hv hx hdb
end

/-! ### steps -/
section
variable {t u : TS} {D : Ends} {σ σ' : St} {H : Hp} {te ta tb tc : TE} {g : TG} {v : V} {i : Nat} {Q : VK} {r r' : R2} {tt tu : TT} {QB : Bool → Hp → Prop} {QS : St → Hp → Prop} {ts : TA} {QL : List V → Hp → Prop} {K : PySem.W.Frag}
theorem go_seq (h : t { D with nx := u D } σ H) : tSeq t u D σ H := h
theorem go_asg (h : te σ H fun x H1 => g x σ H1 D.nx) : tAsg te g D σ H := h
theorem go_name (e : σ.set i (some v) = σ') (h : QS σ' H) : gName i v σ H QS := by show QS (σ.set i (some v)) H; rw [e]; exact h
theorem go_var (e : σ[i]? = some (some v)) (h : Q v H) : tVar i σ H Q := ⟨v, e, h⟩
theorem go_c (h : Q v H) : tC v σ H Q := h
theorem go_op (h : ta σ H fun x H1 => tb σ H1 fun y H2 => r x y H2 Q) : tOp r ta tb σ H Q := h
theorem go_un {ru : V → Hp → VK → Prop} (h : ta σ H fun x H1 => ru x H1 Q) : tUn ru ta σ H Q := h
theorem go_I0 {f : Int → Int → V} {a b : Int} (h : Q (f a b) H) : rI0 f (.int a) (.int b) H Q := ⟨a, b, rfl, rfl, h⟩
theorem go_I {C : Int → Int → Prop} {f : Int → Int → V} {a b : Int} (c : C a b) (h : Q (f a b) H) : rI C f (.int a) (.int b) H Q := ⟨a, b, rfl, rfl, c, h⟩
theorem go_U {f : Int → V} {a : Int} (h : Q (f a) H) : rU f (.int a) H Q := ⟨a, rfl, h⟩
theorem go_ret (h : te σ H D.rt) : tRet te D σ H := h
theorem go_retN (h : D.rt .non H) : tRetN D σ H := h
theorem go_next (h : D.nx σ H) : tNext D σ H := h
theorem go_brk (h : D.bk σ H) : tBreak D σ H := h
theorem go_ct (h : D.ct σ H) : tCont D σ H := h
theorem go_if (h : tt σ H fun b H1 => if b = true then t D σ H1 else u D σ H1) : tIfS tt t u D σ H := h
theorem go_ifx (h : tt σ H fun c H1 => if c = true then ta σ H1 Q else tb σ H1 Q) : tIf tt ta tb σ H Q := h
def KB (x : V) (H : Hp) (QB : Bool → Hp → Prop) : Prop := ∃ k, x = .bl k ∧ QB k H
theorem go_test (h : te σ H fun x H' => KB x H' QB) : tTest te σ H QB := h
theorem go_B (h : te σ H fun x H' => KB x H' QB) : tB te σ H QB := h
theorem go_bl {b : Bool} (h : QB b H) : KB (.bl b) H QB := ⟨b, rfl, h⟩
theorem go_not (h : tt σ H fun c H1 => QB (!c) H1) : tNot tt σ H QB := h
theorem go_and (h : tt σ H fun c H1 => if c = true then tu σ H1 QB else QB false H1) : tAnd tt tu σ H QB := h
theorem go_or (h : tt σ H fun c H1 => if c = true then QB true H1 else tu σ H1 QB) : tOr tt tu σ H QB := h
theorem go_andV (h : ta σ H fun x H1 => KB x H1 fun c H1 => if c = true then tb σ H1 Q else Q (.bl false) H1) : tAndV ta tb σ H Q := h
theorem go_orV (h : ta σ H fun x H1 => KB x H1 fun c H1 => if c = true then Q (.bl true) H1 else tb σ H1 Q) : tOrV ta tb σ H Q := h
theorem go_notV (h : ta σ H fun x H1 => KB x H1 fun c H1 => Q (.bl (!c)) H1) : tNotV ta σ H Q := h
theorem go_drop (h : te σ H fun _ H1 => D.nx σ H1) : tDrop te D σ H := h
theorem go_nil (h : QL [] H) : tNil σ H QL := h
theorem go_cons (h : te σ H fun x H1 => ts σ H1 fun xs H2 => QL (x :: xs) H2) : tCons te ts σ H QL := h
def NewO (o : HO) (H : Hp) (Q : VK) : Prop := ∀ p, H p = none → Q (.ref p) (upd H p o)
def NewT (xs : List V) (H : Hp) (Q : VK) : Prop := xs.length ≤ sizeLine ∧ NewO (.tup xs) H Q
def NewL (xs : List V) (H : Hp) (Q : VK) : Prop := xs.length ≤ sizeLine ∧ NewO (.lst xs) H Q
theorem go_tup (h : ts σ H fun xs H1 => NewT xs H1 Q) : tTup ts σ H Q := h
theorem go_lst (h : ts σ H fun xs H1 => NewL xs H1 Q) : tLst ts σ H Q := h
theorem go_newT {xs : List V} (e : Nat.ble xs.length 1000 = true) (h : NewO (.tup xs) H Q) : NewT xs H Q := ⟨Nat.le_trans (Nat.le_of_ble_eq_true e) (by decide), h⟩
theorem go_newL {xs : List V} (e : Nat.ble xs.length 1000 = true) (h : NewO (.lst xs) H Q) : NewL xs H Q := ⟨Nat.le_trans (Nat.le_of_ble_eq_true e) (by decide), h⟩
theorem go_CB {rc : List V → Hp → VK → Prop} (h : ts σ H fun vs H1 => rc vs H1 Q) : tCB rc ts σ H Q := h
theorem go_call {sp : Sp} {dvs : List V} {E : XK} (h : ts σ H fun vs H1 => sp (vs ++ dvs) H1 Q E) : tCall sp dvs E ts σ H Q := h
theorem go_eq {x y : V} (e : scal x y = true) (h : Q (.bl (decide (x = y))) H) : rEq x y H Q := ⟨e, h⟩
theorem go_ne {x y : V} (e : scal x y = true) (h : Q (.bl (!decide (x = y))) H) : rNe x y H Q := ⟨e, h⟩
theorem go_chain (h : ta σ H fun x H1 => tb σ H1 fun y H2 => r x y H2 fun z H3 => KB z H3 fun k H3 => (if k = true then tc σ H3 fun w' H4 => r' y w' H4 Q else Q (.bl false) H3)) : tChain r r' ta tb tc σ H Q := h
theorem go_gtup {n : Nat} {tg : TGs} {a : Addr} {xs : List V} (hs : SqT K H a xs) (hl : xs.length = n) (h : tg xs σ H QS) : gTup K n tg (.ref a) σ H QS := ⟨a, xs, rfl, hs, hl, h⟩
theorem go_gcons {tg : TGs} {vs : List V} (h : g v σ H fun σ' H' => tg vs σ' H' QS) : gCons g tg (v :: vs) σ H QS := ⟨v, vs, rfl, h⟩
theorem go_gnil (h : QS σ H) : gNil [] σ H QS := ⟨rfl, h⟩
theorem go_nx {a : St → Hp → Prop} {b : VK} {c d : St → Hp → Prop} (h : a σ H) : Ends.nx ⟨a, b, c, d⟩ σ H := h
theorem go_rt {a : St → Hp → Prop} {b : VK} {c d : St → Hp → Prop} (h : b v H) : Ends.rt ⟨a, b, c, d⟩ v H := h
theorem go_bk {a : St → Hp → Prop} {b : VK} {c d : St → Hp → Prop} (h : c σ H) : Ends.bk ⟨a, b, c, d⟩ σ H := h
theorem go_ctx {a : St → Hp → Prop} {b : VK} {c d : St → Hp → Prop} (h : d σ H) : Ends.ct ⟨a, b, c, d⟩ σ H := h
theorem go_sub {to ti : TE} {ps : TSet} (h : to σ H fun o H1 => ti σ H1 fun i H2 => ps o i v H2 fun H3 => QS σ H3) : gSub to ti ps v σ H QS := h
theorem iteNT {A B : Prop} (h : B) : if (!true) = true then A else B := by rw [if_neg (by decide)]; exact h
theorem iteNF {A B : Prop} (h : A) : if (!false) = true then A else B := by rw [if_pos (by decide)]; exact h
theorem if2 {b : Bool} {A B : Prop} (h1 : b = true → A) (h2 : b = false → B) : if b = true then A else B := by
  cases b with
  | true => exact h1 rfl
  | false => exact h2 rfl
end
end L2.A

namespace L2.A
open PySem PySem.Spec PyProof.Rows
/-! ### operators for every kind of value -/
theorem boot_len : bootBuiltins "len" = some (.builtin "len") := by decide +kernel
theorem boot_isinstance : bootBuiltins "isinstance" = some (.builtin "isinstance") := by decide +kernel
theorem boot_sum : bootBuiltins "sum" = some (.builtin "sum") := by decide +kernel
theorem boot_max : bootBuiltins "max" = some (.builtin "max") := by decide +kernel
theorem boot_min : bootBuiltins "min" = some (.builtin "min") := by decide +kernel
theorem boot_all : bootBuiltins "all" = some (.builtin "all") := by decide +kernel
theorem boot_any : bootBuiltins "any" = some (.builtin "any") := by decide +kernel
theorem boot_abs : bootBuiltins "abs" = some (.builtin "abs") := by decide +kernel
theorem boot_sorted : bootBuiltins "sorted" = some (.builtin "sorted") := by decide +kernel
theorem boot_int : bootBuiltins "int" = some (.type "int") := by decide +kernel
theorem boot_str : bootBuiltins "str" = some (.type "str") := by decide +kernel
theorem boot_bool : bootBuiltins "bool" = some (.type "bool") := by decide +kernel
theorem boot_list : bootBuiltins "list" = some (.type "list") := by decide +kernel
theorem boot_tuple : bootBuiltins "tuple" = some (.type "tuple") := by decide +kernel
theorem boot_dict : bootBuiltins "dict" = some (.type "dict") := by decide +kernel
theorem boot_set : bootBuiltins "set" = some (.type "set") := by decide +kernel
theorem boot_ValueError : bootBuiltins "ValueError" = some (.type "ValueError") := by decide +kernel
section
variable {X : Cx} {K : PySem.W.Frag} {H : Hp} {Q : VK} {v : V}
abbrev rStrA : R2 := fun x y H Q => ∃ i j, x = .str i ∧ y = .str j ∧ i.length + j.length ≤ sizeLine ∧ Q (.str (i ++ j)) H
abbrev rIntB : R2 := fun x y H Q => ∃ i k, x = .int i ∧ y = .bl k ∧ Q (.int (i + b2i k)) H
def rAddX (K : PySem.W.Frag) : R2 := fun x y H Q => rI0 (fun i j => .int (i + j)) x y H Q ∨ rStrA x y H Q ∨ rCat x y H Q ∨ rCatT K x y H Q ∨ rIntB x y H Q
theorem op_addX : OpR X (binaryOp .Add) (rAddX X.K) := op_add.or (op_add_str.or (op_cat.or (op_catT.or op_add_ib)))
theorem go_addI {a b : Int} (h : Q (.int (a + b)) H) : rAddX K (.int a) (.int b) H Q := .inl ⟨a, b, rfl, rfl, h⟩
theorem go_addS {a b : Str} (z : a.length + b.length ≤ sizeLine) (h : Q (.str (a ++ b)) H) : rAddX K (.str a) (.str b) H Q := .inr (.inl ⟨a, b, rfl, rfl, z, h⟩)
theorem go_addB {a : Int} {b : Bool} (h : Q (.int (a + b2i b)) H) : rAddX K (.int a) (.bl b) H Q := .inr (.inr (.inr (.inr ⟨a, b, rfl, rfl, h⟩)))
theorem go_addL {p q : Addr} {xs ys : List V} (hp : H p = some (.lst xs)) (hq : H q = some (.lst ys)) (z : xs.length + ys.length ≤ sizeLine) (h : NewO (.lst (xs ++ ys)) H Q) : rAddX K (.ref p) (.ref q) H Q :=
  .inr (.inr (.inl ⟨p, q, xs, ys, rfl, rfl, hp, hq, z, h⟩))
theorem go_addT {p q : Addr} {x : V} {xs : List V} {y : V} {ys : List V} (hp : SqT K H p (x :: xs)) (hq : SqT K H q (y :: ys)) (z : (x :: xs).length + (y :: ys).length ≤ sizeLine) (h : NewO (.tup (x :: xs ++ y :: ys)) H Q) : rAddX K (.ref p) (.ref q) H Q :=
  .inr (.inr (.inr (.inl ⟨p, q, _, _, rfl, rfl, hp, hq, by simp, z, (fun e => nomatch e), fun _ => h⟩)))
/-- whole numbers, or a list so many times -/
def rMulS : R2 := fun x y H Q => ∃ a n, x = .str a ∧ y = .int n ∧ MulOk a n ∧ Q (.str (Txt.mul a n)) H
theorem op_mulS : OpR X (binaryOp .Mult) rMulS := by
  intro pins s σ H x y v u Q I rx ry h
  obtain ⟨a, n, rfl, rfl, ok, q⟩ := h
  obtain ⟨t, rfl⟩ := rx
  obtain ⟨t', rfl⟩ := ry
  exact SB.mul ok fun t' k => ⟨.str _, H, I.tok k, ⟨t', rfl⟩, q⟩
def rMulX : R2 := fun x y H Q => rI CMul (fun i j => .int (i * j)) x y H Q ∨ rRep x y H Q ∨ rMulS x y H Q
theorem op_mulX : OpR X (binaryOp .Mult) rMulX := op_mul.or (op_rep.or op_mulS)
theorem go_mulS {a : Str} {n : Int} (ok : MulOk a n) (h : Q (.str (Txt.mul a n)) H) : rMulX (.str a) (.int n) H Q := .inr (.inr ⟨a, n, rfl, rfl, ok, h⟩)
theorem go_mulI {a b : Int} (c : CMul a b) (h : Q (.int (a * b)) H) : rMulX (.int a) (.int b) H Q := .inl ⟨a, b, rfl, rfl, c, h⟩
/-- == -/
def rEqX (K : PySem.W.Frag) : R2 := fun x y H Q => rEq x y H Q ∨ rEqD K x y H Q
def rNeX (K : PySem.W.Frag) : R2 := fun x y H Q => rNe x y H Q ∨ rNeD K x y H Q
theorem op_eqX (hu : X.A.units + 64 < cLine) : OpR X (compareOp .Eq) (rEqX X.K) := op_eq.or (op_eqD hu)
theorem op_neX (hu : X.A.units + 64 < cLine) : OpR X (compareOp .NotEq) (rNeX X.K) := op_ne.or (op_neD hu)
theorem go_eqS {x y : V} (e : scal x y = true) (h : Q (.bl (decide (x = y))) H) : rEqX K x y H Q := .inl ⟨e, h⟩
theorem go_neS {x y : V} (e : scal x y = true) (h : Q (.bl (!decide (x = y))) H) : rNeX K x y H Q := .inl ⟨e, h⟩
/-- in -/
theorem op_in_d (hu : X.A.units + 1 < cLine) : OpR X (compareOp .In) (fun y x H Q => ∃ a o, x = .ref a ∧ DGet H a y o ∧ Q (.bl o.isSome) H) := by
  intro pins s σ H y x iv u Q I ry rx h
  obtain ⟨a, o, rfl, g, q⟩ := h
  cases rx
  exact d_in hu I g ry fun s3 I3 => ⟨.bl o.isSome, H, I3, rfl, q⟩
theorem op_notIn_d (hu : X.A.units + 1 < cLine) : OpR X (compareOp .NotIn) (fun y x H Q => ∃ a o, x = .ref a ∧ DGet H a y o ∧ Q (.bl (!o.isSome)) H) := by
  intro pins s σ H y x iv u Q I ry rx h
  obtain ⟨a, o, rfl, g, q⟩ := h
  cases rx
  exact d_notIn hu I g ry fun s3 I3 => ⟨.bl (!o.isSome), H, I3, rfl, q⟩
abbrev rInD : R2 := fun y x H Q => ∃ a o, x = .ref a ∧ DGet H a y o ∧ Q (.bl o.isSome) H
abbrev rNotInD : R2 := fun y x H Q => ∃ a o, x = .ref a ∧ DGet H a y o ∧ Q (.bl (!o.isSome)) H
def rInX (K : PySem.W.Frag) : R2 := fun x y H Q => rIn K false x y H Q ∨ rInS x y H Q ∨ rInD x y H Q
def rNotInX (K : PySem.W.Frag) : R2 := fun x y H Q => rIn K true x y H Q ∨ rNotInS x y H Q ∨ rNotInD x y H Q
theorem op_inX (hu : X.A.units + 1 < cLine) : OpR X (compareOp .In) (rInX X.K) := op_in_seq.or (op_inS.or (op_in_d hu))
theorem op_notInX (hu : X.A.units + 1 < cLine) : OpR X (compareOp .NotIn) (rNotInX X.K) := op_notIn_seq.or (op_notInS.or (op_notIn_d hu))
theorem go_inL {x : V} {p : Addr} {xs : List V} (hp : SqL K H p xs) (fx : flatV x = true) (fs : xs.all flatV = true) (h : Q (.bl (inV x xs)) H) : rInX K x (.ref p) H Q := .inl ⟨p, xs, rfl, .inl hp, fx, fs, h⟩
theorem go_inT {x : V} {p : Addr} {xs : List V} (hp : SqT K H p xs) (fx : flatV x = true) (fs : xs.all flatV = true) (h : Q (.bl (inV x xs)) H) : rInX K x (.ref p) H Q := .inl ⟨p, xs, rfl, .inr hp, fx, fs, h⟩
theorem go_inSg {c : Nat} {z : Str} (h : Q (.bl (decide (c ∈ z.cps.toList))) H) : rInX K (.str ⟨#[c]⟩) (.str z) H Q := .inr (.inl ⟨c, z, rfl, rfl, h⟩)
theorem go_inK {p : Addr} {kvs : List (Key × V)} (k : Key) (hp : H p = some (.dK kvs)) (h : Q (.bl (valV kvs k).isSome) H) : rInX K (kV k) (.ref p) H Q := .inr (.inr ⟨p, _, rfl, DGet.k hp, h⟩)
theorem go_ninL {x : V} {p : Addr} {xs : List V} (hp : SqL K H p xs) (fx : flatV x = true) (fs : xs.all flatV = true) (h : Q (.bl (!inV x xs)) H) : rNotInX K x (.ref p) H Q := .inl ⟨p, xs, rfl, .inl hp, fx, fs, h⟩
theorem go_ninT {x : V} {p : Addr} {xs : List V} (hp : SqT K H p xs) (fx : flatV x = true) (fs : xs.all flatV = true) (h : Q (.bl (!inV x xs)) H) : rNotInX K x (.ref p) H Q := .inl ⟨p, xs, rfl, .inr hp, fx, fs, h⟩
theorem go_ninSg {c : Nat} {z : Str} (h : Q (.bl (!decide (c ∈ z.cps.toList))) H) : rNotInX K (.str ⟨#[c]⟩) (.str z) H Q := .inr (.inl ⟨c, z, rfl, rfl, h⟩)
theorem go_ninK {p : Addr} {kvs : List (Key × V)} (k : Key) (hp : H p = some (.dK kvs)) (h : Q (.bl (!(valV kvs k).isSome)) H) : rNotInX K (kV k) (.ref p) H Q := .inr (.inr ⟨p, _, rfl, DGet.k hp, h⟩)
/-- is: None alone, or a truth -/
abbrev rIsO : R2 := fun x y H Q => ∃ a b oa ob, x = .ref a ∧ y = .ref b ∧ H a = some oa ∧ isObj oa = true ∧ H b = some ob ∧ isObj ob = true ∧ Q (.bl (decide (a = b))) H
abbrev rNotO : R2 := fun x y H Q => ∃ a b oa ob, x = .ref a ∧ y = .ref b ∧ H a = some oa ∧ isObj oa = true ∧ H b = some ob ∧ isObj ob = true ∧ Q (.bl (!decide (a = b))) H
abbrev rIsC (K : PySem.W.Frag) : R2 := fun x y H Q => ∃ a b, x = V.ref a ∧ y = V.ref b ∧ (a = b ∨ (PySem.W.makesIn K a = true ∧ PySem.W.makesIn K b = true)) ∧ Q (.bl (decide (a = b))) H
abbrev rNotC (K : PySem.W.Frag) : R2 := fun x y H Q => ∃ a b, x = V.ref a ∧ y = V.ref b ∧ (a = b ∨ (PySem.W.makesIn K a = true ∧ PySem.W.makesIn K b = true)) ∧ Q (.bl (!decide (a = b))) H
def rIsX (K : PySem.W.Frag) : R2 := fun x y H Q => rIsN x y H Q ∨ rIsB x y H Q ∨ rIsO x y H Q ∨ rIsC K x y H Q
def rIsNotX (K : PySem.W.Frag) : R2 := fun x y H Q => rNotN x y H Q ∨ rNotB x y H Q ∨ rNotO x y H Q ∨ rNotC K x y H Q
theorem op_isX : OpR X (compareOp .Is) (rIsX X.K) := op_isN1.or (op_isBl.or (op_is_ref.or op_is_cls))
theorem op_isNotX : OpR X (compareOp .IsNot) (rIsNotX X.K) := op_notN1.or (op_notBl.or (op_isnot_ref.or op_isnot_cls))
theorem go_isN {x : V} (h : Q (.bl (decide (x = .non))) H) : rIsX K x .non H Q := .inl ⟨rfl, h⟩
theorem go_notN {x : V} (h : Q (.bl (!decide (x = .non))) H) : rIsNotX K x .non H Q := .inl ⟨rfl, h⟩
theorem go_isB {a b : Bool} (h : Q (.bl (decide (a = b))) H) : rIsX K (.bl a) (.bl b) H Q := .inr (.inl ⟨_, _, rfl, rfl, h⟩)
theorem go_notB {a b : Bool} (h : Q (.bl (!decide (a = b))) H) : rIsNotX K (.bl a) (.bl b) H Q := .inr (.inl ⟨_, _, rfl, rfl, h⟩)
/-- o[i] -/
abbrev rIxD : R2 := fun x y H Q => ∃ a v, x = .ref a ∧ DGet H a y (some v) ∧ Q v H
theorem ix_dict (hu : X.A.units + 1 < cLine) : IxR X rIxD := by
  intro value slice pins s σ H x y v u Q I rx ry h hs
  obtain ⟨a, z, rfl, g, q⟩ := h
  cases rx
  exact tail_any (dict_typeIs I g) PySem.F.slot_dict_getitem.lookup (d_getItem hu I g ry fun w' s3 I3 rw' => ⟨z, H, I3, rw', q⟩) hs
def rIxX (K : PySem.W.Frag) : R2 := fun x y H Q => rIxL K x y H Q ∨ rIxT K x y H Q ∨ rIxS x y H Q ∨ rIxD x y H Q
theorem ix_X (hu : X.A.units + 1 < cLine) : IxR X (rIxX X.K) := ix_list.or (ix_tup.or (ix_str.or (ix_dict hu)))
theorem go_xL {p : Addr} {xs : List V} {j : Int} (hp : SqL K H p xs) (ha : atI xs j = some v) (h : Q v H) : rIxX K (.ref p) (.int j) H Q := .inl ⟨p, xs, j, v, rfl, rfl, hp, ha, h⟩
theorem go_xT {p : Addr} {xs : List V} {j : Int} (hp : SqT K H p xs) (ha : atI xs j = some v) (h : Q v H) : rIxX K (.ref p) (.int j) H Q := .inr (.inl ⟨p, xs, j, v, rfl, rfl, hp, ha, h⟩)
theorem go_xS {z : Str} {j : Int} {c : Nat} (hz : z.length ≤ sizeLine) (ha : atI z.cps.toList j = some c) (h : Q (.str ⟨#[c]⟩) H) : rIxX K (.str z) (.int j) H Q := .inr (.inr (.inl ⟨z, j, c, rfl, rfl, hz, ha, h⟩))
theorem go_xK {p : Addr} {kvs : List (Key × V)} (k : Key) (hp : H p = some (.dK kvs)) (hv : valV kvs k = some v) (h : Q v H) : rIxX K (.ref p) (kV k) H Q := .inr (.inr (.inr ⟨p, v, rfl, hv ▸ DGet.k hp, h⟩))
theorem go_xKs {p : Addr} {kvs : List (Key × V)} {z : Str} (hp : H p = some (.dK kvs)) (hv : valV kvs (Sum.inr z) = some v) (h : Q v H) : rIxX K (.ref p) (.str z) H Q := go_xK (Sum.inr z) hp hv h
/-- o[i] = e -/
theorem PSet.or {r r' : TSet} (h : PSet X r) (h' : PSet X r') : PSet X (fun o i v H Q => r o i v H Q ∨ r' o i v H Q) := by
  intro pins s σ H o i v ov iv u Q I ro ri rv q
  rcases q with q | q
  · exact h pins s σ H o i v ov iv u Q I ro ri rv q
  · exact h' pins s σ H o i v ov iv u Q I ro ri rv q
abbrev rSetD : TSet := fun o i v H Q => ∃ a H4, o = .ref a ∧ DPut H a i v H4 ∧ Q H4
theorem set_dict (hu : X.A.units + 1 < cLine) : PSet X rSetD := by
  intro pins s σ H o i v ov iv u Q I ro ri rv h
  obtain ⟨a, H4, rfl, g, q⟩ := h
  cases ro
  exact d_setItem hu I g ri rv fun s4 I4 => ⟨H4, I4, q⟩
def rSetX : TSet := fun o i v H Q => rSetL o i v H Q ∨ rSetD o i v H Q
theorem set_X (hu : X.A.units + 1 < cLine) : PSet X rSetX := PSet.or set_list (set_dict hu)
variable {QH : Hp → Prop}
theorem go_sL {l : Addr} {xs : List V} {j : Int} {n : Nat} (hl : H l = some (.lst xs)) (hj : ixN xs.length j = some n) (h : QH (upd H l (.lst (xs.set n v)))) : rSetX (.ref l) (.int j) v H QH := .inl ⟨l, xs, j, n, rfl, rfl, hl, hj, h⟩
theorem go_sK {p : Addr} {kvs : List (Key × V)} (k : Key) (hp : H p = some (.dK kvs)) (z : kvs.length < sizeLine) (h : QH (upd H p (.dK (putK kvs k v)))) : rSetX (.ref p) (kV k) v H QH := .inr ⟨p, _, rfl, DPut.k hp z, h⟩
theorem go_sKs {p : Addr} {kvs : List (Key × V)} {x : Str} (hp : H p = some (.dK kvs)) (z : kvs.length < sizeLine) (h : QH (upd H p (.dK (putK kvs (Sum.inr x) v)))) : rSetX (.ref p) (.str x) v H QH := go_sK (Sum.inr x) hp z h
/-- slices -/
abbrev rSlS : V → Option Int → Option Int → Hp → VK → Prop := fun x lo hi H Q => ∃ z, x = .str z ∧ z.length ≤ sizeLine ∧ Q (.str (cutS z lo hi)) H
def rSlX (K : PySem.W.Frag) : V → Option Int → Option Int → Hp → VK → Prop := fun x lo hi H Q => rSlL K x lo hi H Q ∨ rSlT K x lo hi H Q ∨ rSlS x lo hi H Q
theorem sl_X : SlR X (rSlX X.K) := sl_list.or (sl_tup.or sl_str)
/-- len, int, isinstance, truth -/
abbrev rLenD : List V → Hp → VK → Prop := fun xs H Q => ∃ a kvs, xs = [V.ref a] ∧ H a = some (.dK kvs) ∧ Q (.int kvs.length) H
abbrev rLenV (K : PySem.W.Frag) : List V → Hp → VK → Prop := fun xs H Q => ∃ x n, xs = [x] ∧ LenV K x H n ∧ Q (.int n) H
def rLenX (K : PySem.W.Frag) : List V → Hp → VK → Prop := fun xs H Q => rLenV K xs H Q ∨ rLenD xs H Q
theorem call_lenX : CallR X (.builtin "len") (rLenX X.K) := call_len.or call_lenD
theorem go_lenL {p : Addr} {xs : List V} (hp : SqL K H p xs) (h : Q (.int xs.length) H) : rLenX K [.ref p] H Q := .inl ⟨_, _, rfl, .inl ⟨xs, hp, rfl⟩, h⟩
theorem go_lenT {p : Addr} {xs : List V} (hp : SqT K H p xs) (h : Q (.int xs.length) H) : rLenX K [.ref p] H Q := .inl ⟨_, _, rfl, .inr ⟨xs, hp, rfl⟩, h⟩
theorem go_lenS {z : Str} (hz : z.length ≤ sizeLine) (h : Q (.int z.length) H) : rLenX K [.str z] H Q := .inl ⟨.str z, z.length, rfl, ⟨hz, rfl⟩, h⟩
theorem go_lenD {p : Addr} {kvs : List (Key × V)} (hp : H p = some (.dK kvs)) (h : Q (.int kvs.length) H) : rLenX K [.ref p] H Q := .inr ⟨p, kvs, rfl, hp, h⟩
abbrev rInt1 : List V → Hp → VK → Prop := fun xs H Q => (∃ i, xs = [.int i] ∧ Q (.int i) H) ∨ ∃ k, xs = [.bl k] ∧ Q (.int (if k then 1 else 0)) H
abbrev rIntS : List V → Hp → VK → Prop := fun xs H Q => ∃ a n, xs = [.str a] ∧ PySem.intText? a = some n ∧ a.length ≤ 640 ∧ Q (.int n) H
def rIntX : List V → Hp → VK → Prop := fun xs H Q => rInt1 xs H Q ∨ rIntS xs H Q
theorem call_intX : CallR X (.type "int") rIntX := call_int1.or call_int_str
theorem go_intI {i : Int} (h : Q (.int i) H) : rIntX [.int i] H Q := .inl (.inl ⟨i, rfl, h⟩)
theorem go_intB {k : Bool} (h : Q (.int (if k then 1 else 0)) H) : rIntX [.bl k] H Q := .inl (.inr ⟨k, rfl, h⟩)
theorem go_intS {a : Str} {n : Int} (e : PySem.intText? a = some n) (z : a.length ≤ 640) (h : Q (.int n) H) : rIntX [.str a] H Q := .inr ⟨a, n, rfl, e, z, h⟩
def rIsiX (K : PySem.W.Frag) : List V → Hp → VK → Prop := fun xs H Q => rIsi K xs H Q ∨ rIsiT K xs H Q
theorem call_isiX : CallR X (.builtin "isinstance") (rIsiX X.K) := call_isi.or call_isiT
theorem go_isi {x : V} {T U : String} {b : Bool} (ty : TyX K H x (.type U)) (e : kitB U T = some b) (h : Q (.bl b) H) : rIsiX K [x, .ty T] H Q := .inl ⟨x, .ty T, .type U, .type T, b, rfl, .ty T, ty, kit_ty e, h⟩
def rListO (K : PySem.W.Frag) : List V → Hp → VK → Prop := fun xs H Q => ∃ p ys, xs = [.ref p] ∧ (SqL K H p ys ∨ SqT K H p ys) ∧ ∀ l, H l = none → Q (.ref l) (upd H l (.lst ys))
theorem call_listO : CallR X (.type "list") (rListO X.K) := call_list_of
def rTupO (K : PySem.W.Frag) : List V → Hp → VK → Prop := fun xs H Q => ∃ p ys, xs = [.ref p] ∧ ((SqL K H p ys ∧ ∀ l, H l = none → Q (.ref l) (upd H l (.tup ys))) ∨ (SqT K H p ys ∧ Q (.ref p) H))
theorem call_tupO : CallR X (.type "tuple") (rTupO X.K) := call_tuple_of
def rMx2 : List V → Hp → VK → Prop := fun xs H Q => ∃ i j, xs = [.int i, .int j] ∧ Q (.int (if j > i then j else i)) H
def rMn2 : List V → Hp → VK → Prop := fun xs H Q => ∃ i j, xs = [.int i, .int j] ∧ Q (.int (if j < i then j else i)) H
theorem call_mx2 (hc : X.calm = true) : CallR X (.builtin "max") rMx2 := call_max2 hc
theorem call_mn2 (hc : X.calm = true) : CallR X (.builtin "min") rMn2 := call_min2 hc
def rAbsI : List V → Hp → VK → Prop := fun xs H Q => ∃ i, xs = [.int i] ∧ Q (.int (if i < 0 then -i else i)) H
theorem call_absI : CallR X (.builtin "abs") rAbsI := call_abs
def rStrI : List V → Hp → VK → Prop := fun xs H Q => ∃ i, xs = [.int i] ∧ i.natAbs.log2 < 1920 ∧ Q (.str (toString i)) H
theorem call_strI : CallR X (.type "str") rStrI := call_str_int
theorem go_listL {l : Addr} {xs : List V} (hS : SqL K H l xs) (h : NewO (.lst xs) H Q) : rListO K [V.ref l] H Q := ⟨l, xs, rfl, .inl hS, h⟩
theorem go_listT {l : Addr} {xs : List V} (hS : SqT K H l xs) (h : NewO (.lst xs) H Q) : rListO K [V.ref l] H Q := ⟨l, xs, rfl, .inr hS, h⟩
theorem go_tupL {l : Addr} {xs : List V} (hS : SqL K H l xs) (h : NewO (.tup xs) H Q) : rTupO K [V.ref l] H Q := ⟨l, xs, rfl, .inl ⟨hS, h⟩⟩
theorem go_tupT {l : Addr} {xs : List V} (hS : SqT K H l xs) (h : Q (.ref l) H) : rTupO K [V.ref l] H Q := ⟨l, xs, rfl, .inr ⟨hS, h⟩⟩
theorem go_max {a b : Int} (h : Q (.int (max a b)) H) : rMx2 [V.int a, V.int b] H Q := ⟨a, b, rfl, by
  have e : (if b > a then b else a) = max a b := by
    by_cases c : b > a
    · rw [if_pos c]; omega
    · rw [if_neg c]; omega
  rw [e]; exact h⟩
theorem go_min {a b : Int} (h : Q (.int (min a b)) H) : rMn2 [V.int a, V.int b] H Q := ⟨a, b, rfl, by
  have e : (if b < a then b else a) = min a b := by
    by_cases c : b < a
    · rw [if_pos c]; omega
    · rw [if_neg c]; omega
  rw [e]; exact h⟩
theorem go_abs {a : Int} (h : Q (.int a.natAbs) H) : rAbsI [V.int a] H Q := ⟨a, rfl, by
  have e : (if a < 0 then -a else a) = (a.natAbs : Int) := by
    by_cases c : a < 0
    · rw [if_pos c]; omega
    · rw [if_neg c]; omega
  rw [e]; exact h⟩
theorem go_str {a : Int} (z : a.natAbs.log2 < 1920) (h : Q (.str (toString a)) H) : rStrI [V.int a] H Q := ⟨a, rfl, z, h⟩
def tTruX (K : PySem.W.Frag) (te : TE) : TT := fun σ H Q => te σ H fun x H' => ∃ k, TruV K x H' k ∧ Q k H'
theorem pt_truX {a : Expr} {ta : TE} (ha : PE X a ta) (he : ∀ whole, isTrue a X.env whole = (do let v ← whole; standAt a.pos; holding [v] (truthy v)) := by intro _; rfl) : PT X a (tTruX X.K ta) := pt_truth ha he
def KT (K : PySem.W.Frag) (x : V) (H : Hp) (QB : Bool → Hp → Prop) : Prop := ∃ k, TruV K x H k ∧ QB k H
theorem go_tru {te : TE} {σ : St} {QB : Bool → Hp → Prop} (h : te σ H fun x H' => KT K x H' QB) : tTruX K te σ H QB := h
theorem go_truB {b : Bool} {QB : Bool → Hp → Prop} (h : QB b H) : KT K (.bl b) H QB := ⟨b, rfl, h⟩
theorem go_truI {i : Int} {QB : Bool → Hp → Prop} (h : QB (i != 0) H) : KT K (.int i) H QB := ⟨_, rfl, h⟩
theorem go_truN {QB : Bool → Hp → Prop} (h : QB false H) : KT K .non H QB := ⟨_, rfl, h⟩
theorem kit_ii : kitB "int" "int" = some true := by decide +kernel
theorem kit_ib : kitB "int" "bool" = some false := by decide +kernel
theorem kit_bb : kitB "bool" "bool" = some true := by decide +kernel
theorem kit_bi : kitB "bool" "int" = some true := by decide +kernel
theorem kit_ss : kitB "str" "str" = some true := by decide +kernel
theorem kit_nb : kitB "NoneType" "bool" = some false := by decide +kernel
theorem kit_ni : kitB "NoneType" "int" = some false := by decide +kernel
theorem kit_ns : kitB "NoneType" "str" = some false := by decide +kernel
theorem kit_nt : kitB "NoneType" "tuple" = some false := by decide +kernel
theorem kit_is : kitB "int" "str" = some false := by decide +kernel
theorem kit_si : kitB "str" "int" = some false := by decide +kernel
theorem kit_sb : kitB "str" "bool" = some false := by decide +kernel
theorem kit_tt : kitB "tuple" "tuple" = some true := by decide +kernel
theorem kit_ll : kitB "list" "list" = some true := by decide +kernel
theorem kit_tl : kitB "tuple" "list" = some false := by decide +kernel
theorem kit_lt : kitB "list" "tuple" = some false := by decide +kernel
theorem kit_bs : kitB "bool" "str" = some false := by decide +kernel
/-- a list or a tuple that is walked -/
def IX (K : PySem.W.Frag) (x : V) (H1 : Hp) (R : It → Hp → Prop) : Prop := (∃ a, x = .ref a ∧ (∃ xs, SqL K H1 a xs) ∧ R (Itl K a) H1) ∨ (∃ a, x = .ref a ∧ (∃ xs, SqT K H1 a xs) ∧ R (Itt K a) H1) ∨ (∃ z, x = .str z ∧ R (Its z) H1)
def iX (K : PySem.W.Frag) (tl : TE) : TI := fun σ H R => tl σ H fun x H1 => (∃ a, x = .ref a ∧ (∃ xs, SqL K H1 a xs) ∧ R (Itl K a) H1) ∨ (∃ a, x = .ref a ∧ (∃ xs, SqT K H1 a xs) ∧ R (Itt K a) H1) ∨ (∃ z, x = .str z ∧ R (Its z) H1)
theorem pi_X {tg l : Expr} {tl : TE} (hl : PE X l tl) : PI X tg l (iX X.K tl) := by
  refine ⟨fun pins s σ H R I h => ?_⟩
  refine thn (hl.run pins s σ H _ I h) fun v s1 ⟨x, H1, I1, r1, q1⟩ => ?_
  rcases q1 with ⟨a, ex, ⟨xs, hq⟩, q⟩ | ⟨a, ex, ⟨xs, hq⟩, q⟩ | ⟨z, ex, q⟩
  · subst ex
    cases r1
    obtain ⟨its, rv, p, hz⟩ := I1.list hq
    refine wpAny_pyIter_list p.isList ?_
    refine ⟨s1.heap.objs.size, [s1.heap.objs.size], _, _, H1, rfl, I1.kept (t' := s1.toks) fun b o e => Heap.get?_push_of_some _ e, turn_list a _, ⟨_, Heap.get?_push_size _ rfl, rfl, rfl⟩, fun b hb => ?_, q⟩
    have e : b = s1.heap.objs.size := by simpa using hb
    subst e
    exact I1.fpOk (Nat.le_refl _) (I1.hok.fresh (Nat.le_refl _))
  · subst ex
    cases r1
    obtain ⟨its, rv, p, hz⟩ := I1.tuple hq
    refine wpAny_pyIter_tuple (show s1.heap.IsTuple a its.toArray from p) ?_
    refine ⟨s1.heap.objs.size, [s1.heap.objs.size], _, _, H1, rfl, I1.kept (t' := s1.toks) fun b o e => Heap.get?_push_of_some _ e, turn_tuple a _, ⟨_, Heap.get?_push_size _ rfl, rfl, rfl⟩, fun b hb => ?_, q⟩
    have e : b = s1.heap.objs.size := by simpa using hb
    subst e
    exact I1.fpOk (Nat.le_refl _) (I1.hok.fresh (Nat.le_refl _))
  · subst ex
    obtain ⟨t, rfl⟩ := r1
    cases ha : z.cps.all (· < 128)
    · exact wpAny_pyIter_wide ha (pi_one (tk := s1.toks) I1 _ (turn_str _ z t "str_iterator" (.inr rfl)) ⟨_, Heap.get?_push_size _ rfl, rfl, rfl⟩ q)
    · exact wpAny_pyIter_ascii ha (pi_one (tk := s1.toks) I1 _ (turn_str _ z t "str_ascii_iterator" (.inl rfl)) ⟨_, Heap.get?_push_size _ rfl, rfl, rfl⟩ q)
end
end L2.A

namespace L2.A
open PySem PySem.Spec PyProof.Rows
theorem go_start {t : TS} {D : Ends} {N : List Str} {vs : List V} {σ : St} {H : Hp} (e : start N vs = σ) (h : t D σ H) : t D (start N vs) H := by rw [e]; exact h
theorem ite_T {b : Bool} {A B : Prop} (e : b = true) (h : A) : if b = true then A else B := by rw [if_pos e]; exact h
theorem ite_F {b : Bool} {A B : Prop} (e : b = false) (h : B) : if b = true then A else B := by rw [e]; exact iteF h
/-- promises by the number of arguments -/
def Sp0 (R : Hp → VK → XK → Prop) : Sp := fun vs H Q E => vs = [] ∧ R H Q E
def Sp1 (R : V → Hp → VK → XK → Prop) : Sp := fun vs H Q E => ∃ a, vs = [a] ∧ R a H Q E
def Sp2 (R : V → V → Hp → VK → XK → Prop) : Sp := fun vs H Q E => ∃ a b, vs = [a, b] ∧ R a b H Q E
def Sp3 (R : V → V → V → Hp → VK → XK → Prop) : Sp := fun vs H Q E => ∃ a b c, vs = [a, b, c] ∧ R a b c H Q E
def Sp4 (R : V → V → V → V → Hp → VK → XK → Prop) : Sp := fun vs H Q E => ∃ a b c d, vs = [a, b, c, d] ∧ R a b c d H Q E
def Sp5 (R : V → V → V → V → V → Hp → VK → XK → Prop) : Sp := fun vs H Q E => ∃ a b c d e, vs = [a, b, c, d, e] ∧ R a b c d e H Q E
section
variable {vs : List V} {H : Hp} {Q : VK} {E : XK} {a b c d e : V}
theorem len0 {R} (h : Sp0 R vs H Q E) : vs.length = 0 := by obtain ⟨rfl, _⟩ := h; rfl
theorem len1 {R} (h : Sp1 R vs H Q E) : vs.length = 1 := by obtain ⟨_, rfl, _⟩ := h; rfl
theorem len2 {R} (h : Sp2 R vs H Q E) : vs.length = 2 := by obtain ⟨_, _, rfl, _⟩ := h; rfl
theorem len3 {R} (h : Sp3 R vs H Q E) : vs.length = 3 := by obtain ⟨_, _, _, rfl, _⟩ := h; rfl
theorem len4 {R} (h : Sp4 R vs H Q E) : vs.length = 4 := by obtain ⟨_, _, _, _, rfl, _⟩ := h; rfl
theorem len5 {R} (h : Sp5 R vs H Q E) : vs.length = 5 := by obtain ⟨_, _, _, _, _, rfl, _⟩ := h; rfl
theorem go_sp0 {R} (h : R H Q E) : Sp0 R ([] ++ []) H Q E := ⟨rfl, h⟩
theorem go_sp1 {R} (h : R a H Q E) : Sp1 R ([a] ++ []) H Q E := ⟨a, rfl, h⟩
theorem go_sp2 {R} (h : R a b H Q E) : Sp2 R ([a, b] ++ []) H Q E := ⟨a, b, rfl, h⟩
theorem go_sp3 {R} (h : R a b c H Q E) : Sp3 R ([a, b, c] ++ []) H Q E := ⟨a, b, c, rfl, h⟩
theorem go_sp4 {R} (h : R a b c d H Q E) : Sp4 R ([a, b, c, d] ++ []) H Q E := ⟨a, b, c, d, rfl, h⟩
theorem go_sp5 {R} (h : R a b c d e H Q E) : Sp5 R ([a, b, c, d, e] ++ []) H Q E := ⟨a, b, c, d, e, rfl, h⟩
end
end L2.A
namespace L2.A
open PySem PySem.Spec PyProof.Rows
section
variable {K : PySem.W.Frag} {H : Hp} {Q : VK} {v : V} {σ : St} {D : Ends}
def ForW (J : It) (g : TG) (tb : TS) (D : Ends) (σ : St) (H1 : Hp) : Prop := ∃ W : Nat → Nat → St → Hp → Prop, (∃ m, W 0 m σ H1) ∧ ∀ i m σ H, W i m σ H →
  (J.stop i H ∧ D.nx σ H) ∨ (J.go i H ∧ ∃ N : St → Hp → Prop, (∀ σ' H', N σ' H' → ∃ m', m' < m ∧ W (i + 1) m' σ' H') ∧ ∀ x H', J.yld i H x H' → g x σ H' fun σ2 H2 => tb { D with nx := N, ct := N, bk := D.nx } σ2 H2)
theorem go_for {wi : TI} {g : TG} {tb : TS} (h : wi σ H fun J H1 => ForW J g tb D σ H1) : tFor wi g tb D σ H := h
theorem ForW.list {a : Addr} {xs : List V} {g : TG} {tb : TS} (Pv : Nat → St → Hp → Prop) (h0 : Pv 0 σ H) (hl : ∀ i σ H, i ≤ xs.length → Pv i σ H → SqL K H a xs)
    (hs : ∀ i x σ H, xs[i]? = some x → Pv i σ H → g x σ H fun σ2 H2 => tb { D with nx := Pv (i + 1), ct := Pv (i + 1), bk := D.nx } σ2 H2) (hd : ∀ σ H, Pv xs.length σ H → D.nx σ H) : ForW (Itl K a) g tb D σ H := for_list Pv h0 hl hs hd
theorem ForW.tup {a : Addr} {xs : List V} {g : TG} {tb : TS} (Pv : Nat → St → Hp → Prop) (h0 : Pv 0 σ H) (hl : ∀ i σ H, i ≤ xs.length → Pv i σ H → SqT K H a xs)
    (hs : ∀ i x σ H, xs[i]? = some x → Pv i σ H → g x σ H fun σ2 H2 => tb { D with nx := Pv (i + 1), ct := Pv (i + 1), bk := D.nx } σ2 H2) (hd : ∀ σ H, Pv xs.length σ H → D.nx σ H) : ForW (Itt K a) g tb D σ H := for_tup Pv h0 hl hs hd
theorem ForW.range {lo : Int} {n : Nat} {g : TG} {tb : TS} (Pv : Nat → St → Hp → Prop) (h0 : Pv 0 σ H)
    (hs : ∀ i σ H, i < n → Pv i σ H → g (.int (lo + i)) σ H fun σ2 H2 => tb { D with nx := Pv (i + 1), ct := Pv (i + 1), bk := D.nx } σ2 H2) (hd : ∀ σ H, Pv n σ H → D.nx σ H) : ForW (Itr lo n) g tb D σ H := for_range Pv h0 hs hd
theorem ForW.str {z : Str} {g : TG} {tb : TS} (Pv : Nat → St → Hp → Prop) (h0 : Pv 0 σ H)
    (hs : ∀ i c σ H, z.cps.toList[i]? = some c → Pv i σ H → g (.str ⟨#[c]⟩) σ H fun σ2 H2 => tb { D with nx := Pv (i + 1), ct := Pv (i + 1), bk := D.nx } σ2 H2) (hd : ∀ σ H, Pv z.cps.toList.length σ H → D.nx σ H) : ForW (Its z) g tb D σ H := by
  refine ⟨fun i m σ H => m = z.cps.size - i ∧ i ≤ z.cps.size ∧ Pv i σ H, ⟨z.cps.size, by simp, Nat.zero_le _, h0⟩, ?_⟩
  rintro i m σ H ⟨rfl, hi, p⟩
  by_cases hlt : i < z.cps.size
  · refine .inr ⟨hlt, Pv (i + 1), fun σ' H' p' => ⟨z.cps.size - (i + 1), by omega, rfl, hlt, p'⟩, fun x H' y => ?_⟩
    obtain ⟨e, c, hc, hx⟩ := y
    subst e hx
    exact hs i c σ _ (by simpa using hc) p
  · have e : i = z.cps.size := by omega
    subst e
    exact .inl ⟨Nat.le_refl _, hd σ H (by simpa using p)⟩
theorem go_iX {tl : TE} {R : It → Hp → Prop} (h : tl σ H fun x H1 => IX K x H1 R) : iX K tl σ H R := h
theorem go_iL {a : Addr} {xs : List V} {R : It → Hp → Prop} (hS : SqL K H a xs) (h : R (Itl K a) H) : IX K (.ref a) H R := .inl ⟨a, rfl, ⟨xs, hS⟩, h⟩
theorem go_iT {a : Addr} {xs : List V} {R : It → Hp → Prop} (hS : SqT K H a xs) (h : R (Itt K a) H) : IX K (.ref a) H R := .inr (.inl ⟨a, rfl, ⟨xs, hS⟩, h⟩)
theorem go_iS {z : Str} {R : It → Hp → Prop} (h : R (Its z) H) : IX K (.str z) H R := .inr (.inr ⟨z, rfl, h⟩)
def LcW (J : It) (g : TG) (tt : TT) (te : TE) (vs : List Nat) (σ : St) (H1 : Hp) (Q : VK) : Prop := ∀ D, H1 D = none → ∃ W : Nat → Nat → Hp → Prop, (∃ m, W 0 m (upd H1 D (.lst []))) ∧ ∀ i m H, W i m H →
  (J.stop i H ∧ Q (.ref D) H) ∨ (J.go i H ∧ ∃ Nx : Hp → Prop, (∀ H', Nx H' → ∃ m', m' < m ∧ W (i + 1) m' H') ∧ ∀ x H', J.yld i H x H' → g x (wipe σ vs) H' fun σ2 H2 => wipe σ2 vs = wipe σ vs ∧ tt σ2 H2 fun b H3 =>
    if b = true then te σ2 H3 fun y H4 => ∃ acc, H4 D = some (.lst acc) ∧ acc.length < sizeLine ∧ Nx (upd H4 D (.lst (acc ++ [y]))) else Nx H3)
theorem go_lc {wi : TI} {g : TG} {tt : TT} {te : TE} {vs : List Nat} (h : wi σ H fun J H1 => LcW J g tt te vs σ H1 Q) : tLc wi g tt te vs σ H Q := h
/-- the same relation at other targets -/
structure LcS (g : TG) (tt : TT) (te : TE) (vs : List Nat) (σ : St) (x : V) (H : Hp) (yes : V → Hp → Prop) (no : Hp → Prop) : Prop where
  run : g x (wipe σ vs) H fun σ2 H2 => wipe σ2 vs = wipe σ vs ∧ tt σ2 H2 fun b H3 => if b = true then te σ2 H3 yes else no H3
/-- GENERAL: over a list; R i ys H' what holds of the items made so far; D is the new list's own place -/
theorem LcW.list {a : Addr} {xs : List V} {H1 : Hp} {g : TG} {tt : TT} {te : TE} {vs : List Nat} (R : Addr → Nat → List V → Hp → Prop) (hz : xs.length ≤ 100000) (hS : SqL K H1 a xs) (h0 : ∀ D, H1 D = none → R D 0 [] (upd H1 D (.lst [])))
    (hs : ∀ D i x ys H', H1 D = none → xs[i]? = some x → ys.length ≤ i → R D i ys H' → Same H1 H' → H' D = some (.lst ys) → ∀ (yes : V → Hp → Prop) (no : Hp → Prop),
      (∀ y H'', Same H' H'' → R D (i + 1) (ys ++ [y]) (upd H'' D (.lst (ys ++ [y]))) → yes y H'') → (∀ H'', Same H' H'' → R D (i + 1) ys H'' → no H'') →
      g x (wipe σ vs) H' fun σ2 H2 => wipe σ2 vs = wipe σ vs ∧ tt σ2 H2 fun b H3 => if b = true then te σ2 H3 yes else no H3)
    (hd : ∀ D ys H', H1 D = none → Same H1 H' → H' D = some (.lst ys) → ys.length ≤ xs.length → R D xs.length ys H' → Q (.ref D) H') : LcW (Itl K a) g tt te vs σ H1 Q := by
  intro D hD
  refine lc_list (xs := xs) (fun i H' => Same H1 H' ∧ ∃ ys, H' D = some (.lst ys) ∧ ys.length ≤ i ∧ R D i ys H') ⟨same_new hD, [], upd_same, Nat.le_refl _, h0 D hD⟩ (fun i H' _ ⟨s, _⟩ => s.seq hS) (fun i x H' hi ⟨s, ys, e, hl, r⟩ => ?_) fun H' ⟨s, ys, e, hl, r⟩ => hd D ys H' hD s e hl r
  have hil : i < xs.length := (List.getElem?_eq_some_iff.mp hi).1
  refine hs D i x ys H' hD hi hl r s e _ _ (fun y H'' s2 r2 => ⟨ys, s2 _ _ e, ?_, same_mut (s.trans s2) hD, ys ++ [y], upd_same, by rw [List.length_append]; show ys.length + 1 ≤ _; omega, r2⟩) fun H'' s2 r2 => ⟨s.trans s2, ys, s2 _ _ e, by omega, r2⟩
  exact Nat.lt_of_le_of_lt hl (Nat.lt_of_lt_of_le hil (Nat.le_trans hz (by decide)))
theorem LcW.tup {a : Addr} {xs : List V} {H1 : Hp} {g : TG} {tt : TT} {te : TE} {vs : List Nat} (R : Addr → Nat → List V → Hp → Prop) (hz : xs.length ≤ 100000) (hS : SqT K H1 a xs) (h0 : ∀ D, H1 D = none → R D 0 [] (upd H1 D (.lst [])))
    (hs : ∀ D i x ys H', H1 D = none → xs[i]? = some x → ys.length ≤ i → R D i ys H' → Same H1 H' → H' D = some (.lst ys) → ∀ (yes : V → Hp → Prop) (no : Hp → Prop),
      (∀ y H'', Same H' H'' → R D (i + 1) (ys ++ [y]) (upd H'' D (.lst (ys ++ [y]))) → yes y H'') → (∀ H'', Same H' H'' → R D (i + 1) ys H'' → no H'') →
      g x (wipe σ vs) H' fun σ2 H2 => wipe σ2 vs = wipe σ vs ∧ tt σ2 H2 fun b H3 => if b = true then te σ2 H3 yes else no H3)
    (hd : ∀ D ys H', H1 D = none → Same H1 H' → H' D = some (.lst ys) → ys.length ≤ xs.length → R D xs.length ys H' → Q (.ref D) H') : LcW (Itt K a) g tt te vs σ H1 Q := by
  intro D hD
  have seqT : ∀ {H' : Hp}, Same H1 H' → SqT K H' a xs := fun {H'} s => by
    rcases hS with (h | ⟨o, h⟩) | h
    · exact .inl (.inl (s _ _ h))
    · exact .inl (.inr ⟨o, s _ _ h⟩)
    · exact .inr h
  refine lc_tup (xs := xs) (fun i H' => Same H1 H' ∧ ∃ ys, H' D = some (.lst ys) ∧ ys.length ≤ i ∧ R D i ys H') ⟨same_new hD, [], upd_same, Nat.le_refl _, h0 D hD⟩ (fun i H' _ ⟨s, _⟩ => seqT s) (fun i x H' hi ⟨s, ys, e, hl, r⟩ => ?_) fun H' ⟨s, ys, e, hl, r⟩ => hd D ys H' hD s e hl r
  have hil : i < xs.length := (List.getElem?_eq_some_iff.mp hi).1
  refine hs D i x ys H' hD hi hl r s e _ _ (fun y H'' s2 r2 => ⟨ys, s2 _ _ e, ?_, same_mut (s.trans s2) hD, ys ++ [y], upd_same, by rw [List.length_append]; show ys.length + 1 ≤ _; omega, r2⟩) fun H'' s2 r2 => ⟨s.trans s2, ys, s2 _ _ e, by omega, r2⟩
  exact Nat.lt_of_le_of_lt hl (Nat.lt_of_lt_of_le hil (Nat.le_trans hz (by decide)))
/-- elements are plain values, no test -/
theorem LcW.listV {a : Addr} {xs : List V} {H1 : Hp} {g : TG} {te : TE} {vs : List Nat} (out : Nat → V) (hz : xs.length ≤ 100000) (hS : SqL K H1 a xs)
    (hs : ∀ i x H', xs[i]? = some x → Same H1 H' → ∀ Q' : VK, (∀ H'', Same H' H'' → Q' (out i) H'') → g x (wipe σ vs) H' fun σ2 H2 => wipe σ2 vs = wipe σ vs ∧ te σ2 H2 Q')
    (mono : ∀ (x : V) (σ : St) (H : Hp) (Q Q' : St → Hp → Prop), (∀ σ H, Q σ H → Q' σ H) → g x σ H Q → g x σ H Q')
    (hd : ∀ D H', H1 D = none → Same H1 H' → H' D = some (.lst ((List.range xs.length).map out)) → Q (.ref D) H') : LcW (Itl K a) g tYes te vs σ H1 Q := by
  refine LcW.list (fun D i ys H' => ys = (List.range i).map out) hz hS (fun _ _ => rfl) (fun D i x ys H' hD hi hl r s e yes no hy hn => ?_) fun D ys H' hD s e _ r => hd D H' hD s (by rw [e, r])
  refine mono x _ _ _ _ (fun σ2 H2 q => q) (hs i x H' hi s yes fun H'' s2 => hy _ _ s2 ?_)
  rw [r, List.range_succ, List.map_append]
  rfl
theorem gname_mono {i : Nat} (x : V) (σ : St) (H : Hp) (Q Q' : St → Hp → Prop) (h : ∀ σ H, Q σ H → Q' σ H) (q : gName i x σ H Q) : gName i x σ H Q' := h _ _ q
theorem go_all {l : Addr} {bs : List Bool} (hS : SqL K H l (bs.map V.bl)) (h : Q (.bl (bs.all id)) H) : rAll K [.ref l] H Q := ⟨l, bs, rfl, hS, h⟩
theorem go_any {l : Addr} {bs : List Bool} (hS : SqL K H l (bs.map V.bl)) (h : Q (.bl (bs.any id)) H) : rAny K [.ref l] H Q := ⟨l, bs, rfl, hS, h⟩
theorem go_sum {l : Addr} {ns : List Int} (hS : SqL K H l (ns.map V.int)) (h : Q (.int ns.sum) H) : rSum K [.ref l] H Q := ⟨l, ns, rfl, hS, h⟩
theorem go_yes {QB : Bool → Hp → Prop} (h : QB true H) : tYes σ H QB := h
end
theorem range_map_const {n : Nat} {v : V} : (List.range n).map (fun _ => v) = List.replicate n v := by
  induction n with
  | zero => rfl
  | succ n ih => rw [List.range_succ, List.map_append, ih, List.replicate_succ'] <;> rfl
theorem all_true {n : Nat} : (List.replicate n true).all id = true := by simp
theorem szl {n : Nat} (h : n ≤ 100000) : n ≤ sizeLine := Nat.le_trans h (by decide)
theorem bl_ok {b : Bool} {Q : VK} {H : Hp} (e : b = true) (h : Q (.bl true) H) : Q (.bl b) H := by rw [e]; exact h
end L2.A
namespace L2.A
open PySem PySem.Spec PyProof.Rows
theorem ret_V {v v' : V} {Q : VK} {H : Hp} (e : v' = v) (h : Q v' H) : Q v H := by rw [← e]; exact h
theorem dec_int {i j : Int} : decide (V.int i = V.int j) = decide (i = j) := by simp
theorem dec_str {i j : Str} : decide (V.str i = V.str j) = decide (i = j) := by simp
theorem dec_bl {i j : Bool} : decide (V.bl i = V.bl j) = decide (i = j) := by simp
/-- the head and the items of a list of whole numbers -/
theorem int_at {ns : List Int} {i : Nat} {x : V} (h : (ns.map V.int)[i]? = some x) : ∃ z, x = V.int z ∧ ns[i]? = some z := by
  rw [List.getElem?_map] at h
  cases e : ns[i]? with
  | none => rw [e] at h; cases h
  | some z => rw [e] at h; exact ⟨z, (Option.some.inj h).symm, rfl⟩
theorem iteS_bl {b : Bool} {Q : VK} {H : Hp} {v1 v2 : V} (h1 : b = true → Q v1 H) (h2 : b = false → Q v2 H) : if b = true then Q v1 H else Q v2 H := if2 h1 h2
end L2.A
namespace L2.A
open PySem PySem.Spec PyProof.Rows
def RN1 (vs : List V) (H1 : Hp) (R : It → Hp → Prop) : Prop := ∃ j : Int, vs = [.int j] ∧ -(2 ^ 62) ≤ j ∧ j < 2 ^ 62 ∧ R (Itr 0 j.toNat) H1
def RN2 (vs : List V) (H1 : Hp) (R : It → Hp → Prop) : Prop := ∃ i j : Int, vs = [.int i, .int j] ∧ (-(2 ^ 62) ≤ i ∧ i < 2 ^ 62 ∧ -(2 ^ 62) ≤ j ∧ j < 2 ^ 62) ∧ R (Itr i (j - i).toNat) H1
theorem go_rng1 {ta : TA} {σ : St} {H : Hp} {R : It → Hp → Prop} (h : ta σ H fun vs H1 => RN1 vs H1 R) : iRng1 ta σ H R := h
theorem go_rng2 {ta : TA} {σ : St} {H : Hp} {R : It → Hp → Prop} (h : ta σ H fun vs H1 => RN2 vs H1 R) : iRng2 ta σ H R := h
theorem go_rn1 {j : Int} {H : Hp} {R : It → Hp → Prop} (h1 : -100000 ≤ j ∧ j ≤ 100000) (h : R (Itr 0 j.toNat) H) : RN1 [.int j] H R := ⟨j, rfl, by omega, by omega, h⟩
theorem go_rn2 {i j : Int} {H : Hp} {R : It → Hp → Prop} (h1 : -100000 ≤ i ∧ i ≤ 100000 ∧ -100000 ≤ j ∧ j ≤ 100000) (h : R (Itr i (j - i).toNat) H) : RN2 [.int i, .int j] H R := ⟨i, j, rfl, ⟨by omega, by omega, by omega, by omega⟩, h⟩
/-- an item of a written list at a drawn place -/
theorem at_some {α : Type} {xs : List α} {r : Int} (h0 : 0 ≤ r) (h1 : r < xs.length) : ∃ v, atI xs r = some v ∧ v ∈ xs := by
  obtain ⟨j, rfl⟩ : ∃ j : Nat, r = (j : Int) := ⟨r.toNat, by omega⟩
  have hj : j < xs.length := by omega
  exact ⟨xs[j], atI_nat (List.getElem?_eq_getElem hj), List.getElem_mem hj⟩
theorem menuS {L : List Str} {r : Int} (h0 : 0 ≤ r) (h1 : r < L.length) : ∃ k, atI (L.map V.str) r = some (.str k) ∧ k ∈ L := by
  obtain ⟨v, e, m⟩ := at_some (xs := L.map V.str) h0 (by rw [List.length_map]; exact h1)
  obtain ⟨k, hk, rfl⟩ := List.mem_map.mp m
  exact ⟨k, e, hk⟩
theorem menuI {L : List Int} {r : Int} (h0 : 0 ≤ r) (h1 : r < L.length) : ∃ k, atI (L.map V.int) r = some (.int k) ∧ k ∈ L := by
  obtain ⟨v, e, m⟩ := at_some (xs := L.map V.int) h0 (by rw [List.length_map]; exact h1)
  obtain ⟨k, hk, rfl⟩ := List.mem_map.mp m
  exact ⟨k, e, hk⟩
/-- a sign of a written text at a drawn place -/
theorem sign_some {z : Str} {r : Int} (h0 : 0 ≤ r) (h1 : r < z.cps.toList.length) : ∃ c, atI z.cps.toList r = some c ∧ c ∈ z.cps.toList := at_some h0 h1
theorem len_app (a b : Str) : (a ++ b).length = a.length + b.length := by
  have h := congrArg List.length (TL.tl_append a b)
  rw [List.length_append, ← TL.len_tl, ← TL.len_tl, ← TL.len_tl] at h
  exact h
theorem len_one {c : Nat} : (⟨#[c]⟩ : Str).length = 1 := rfl
end L2.A

namespace L2.A
open PySem PySem.Spec PyProof.Rows
section
variable {σ : St} {H : Hp} {Q : VK} {QB : Bool → Hp → Prop} {tt tu : TT} {ta tb : TE} {c1 c2 : Bool} {v1 v2 : V}
/-! ### and, or whose parts lay nothing: one value, no two ways -/
theorem go_andP (h1 : ∀ QB' : Bool → Hp → Prop, QB' c1 H → tt σ H QB') (h2 : ∀ QB' : Bool → Hp → Prop, QB' c2 H → tu σ H QB') (h : QB (c1 && c2) H) : tAnd tt tu σ H QB := h1 _ (by
  cases c1 with
  | true => exact iteT (h2 _ h)
  | false => exact iteF h)
theorem go_orP (h1 : ∀ QB' : Bool → Hp → Prop, QB' c1 H → tt σ H QB') (h2 : ∀ QB' : Bool → Hp → Prop, QB' c2 H → tu σ H QB') (h : QB (c1 || c2) H) : tOr tt tu σ H QB := h1 _ (by
  cases c1 with
  | true => exact iteT h
  | false => exact iteF (h2 _ h))
theorem go_andVP (h1 : ∀ Q' : VK, Q' (.bl c1) H → ta σ H Q') (h2 : ∀ Q' : VK, Q' (.bl c2) H → tb σ H Q') (h : Q (.bl (c1 && c2)) H) : tAndV ta tb σ H Q := h1 _ ⟨c1, rfl, by
  cases c1 with
  | true => exact iteT (h2 _ h)
  | false => exact iteF h⟩
theorem go_orVP (h1 : ∀ Q' : VK, Q' (.bl c1) H → ta σ H Q') (h2 : ∀ Q' : VK, Q' (.bl c2) H → tb σ H Q') (h : Q (.bl (c1 || c2)) H) : tOrV ta tb σ H Q := h1 _ ⟨c1, rfl, by
  cases c1 with
  | true => exact iteT h
  | false => exact iteF (h2 _ h)⟩
theorem go_ifxP (h1 : ∀ QB' : Bool → Hp → Prop, QB' c1 H → tt σ H QB') (h2 : ∀ Q' : VK, Q' v1 H → ta σ H Q') (h3 : ∀ Q' : VK, Q' v2 H → tb σ H Q') (h : Q (if c1 = true then v1 else v2) H) : tIf tt ta tb σ H Q := h1 _ (by
  cases c1 with
  | true => exact iteT (h2 _ h)
  | false => exact iteF (h3 _ h))
theorem and_join (h2 : ∀ QB' : Bool → Hp → Prop, QB' c2 H → tu σ H QB') (h : QB (c1 && c2) H) : if c1 = true then tu σ H QB else QB false H := by
  cases c1 with
  | true => exact iteT (h2 _ h)
  | false => exact iteF h
theorem or_join (h2 : ∀ QB' : Bool → Hp → Prop, QB' c2 H → tu σ H QB') (h : QB (c1 || c2) H) : if c1 = true then QB true H else tu σ H QB := by
  cases c1 with
  | true => exact iteT h
  | false => exact iteF (h2 _ h)
theorem andV_join (h2 : ∀ Q' : VK, Q' (.bl c2) H → tb σ H Q') (h : Q (.bl (c1 && c2)) H) : if c1 = true then tb σ H Q else Q (.bl false) H := by
  cases c1 with
  | true => exact iteT (h2 _ h)
  | false => exact iteF h
theorem orV_join (h2 : ∀ Q' : VK, Q' (.bl c2) H → tb σ H Q') (h : Q (.bl (c1 || c2)) H) : if c1 = true then Q (.bl true) H else tb σ H Q := by
  cases c1 with
  | true => exact iteT h
  | false => exact iteF (h2 _ h)
/-- the same where the parts may lay new objects -/
theorem go_andS (h1 : ∀ QB' : Bool → Hp → Prop, (∀ H', Same H H' → QB' c1 H') → tt σ H QB') (h2 : ∀ H1, Same H H1 → ∀ QB' : Bool → Hp → Prop, (∀ H', Same H1 H' → QB' c2 H') → tu σ H1 QB') (h : ∀ H', Same H H' → QB (c1 && c2) H') : tAnd tt tu σ H QB := h1 _ fun H1 s1 => by
  cases c1 with
  | true => exact iteT (h2 _ s1 _ fun H2 s2 => h _ (s1.trans s2))
  | false => exact iteF (h _ s1)
theorem go_orS (h1 : ∀ QB' : Bool → Hp → Prop, (∀ H', Same H H' → QB' c1 H') → tt σ H QB') (h2 : ∀ H1, Same H H1 → ∀ QB' : Bool → Hp → Prop, (∀ H', Same H1 H' → QB' c2 H') → tu σ H1 QB') (h : ∀ H', Same H H' → QB (c1 || c2) H') : tOr tt tu σ H QB := h1 _ fun H1 s1 => by
  cases c1 with
  | true => exact iteT (h _ s1)
  | false => exact iteF (h2 _ s1 _ fun H2 s2 => h _ (s1.trans s2))
end
end L2.A

namespace L2.A
open PySem PySem.Spec PyProof.Rows
/-- a statement, then the rest, with a word between them: what follows is shown once, from Mid -/
def tCut (t u : TS) : TS := fun D σ H => ∃ Mid : St → Hp → Prop, t { D with nx := Mid } σ H ∧ ∀ σ' H', Mid σ' H' → u D σ' H'
theorem pss_cut {X : Cx} {st : Stmt} {rest : List Stmt} {t u : TS} (h1 : PS X st t) (h2 : PSs X rest u) : PSs X (st :: rest) (tCut t u) := by
  refine ⟨fun pins s σ H D I h => ?_⟩
  obtain ⟨Mid, hm, hu⟩ := h
  refine wpAny_execs_cons (thn (h1.run pins s σ H { D with nx := Mid } I hm) fun f s1 q => ?_)
  cases f with
  | next =>
    obtain ⟨σ', H', I', q⟩ := q
    exact h2.run pins s1 σ' H' D I' (hu σ' H' q)
  | ret v => exact q
  | brk => exact q
  | cont => exact q
theorem go_cut {t u : TS} {D : Ends} {σ : St} {H : Hp} (Mid : St → Hp → Prop) (h1 : t { D with nx := Mid } σ H) (h2 : ∀ σ' H', Mid σ' H' → u D σ' H') : tCut t u D σ H := ⟨Mid, h1, h2⟩
end L2.A

namespace L2.A
open PySem PySem.Spec PyProof.Rows
theorem seqT_same {K : PySem.W.Frag} {H H' : Hp} {p : Addr} {xs : List V} (h : SqT K H p xs) (s : Same H H') : SqT K H' p xs := by
  rcases h with (h | ⟨o, h⟩) | h
  · exact .inl (.inl (s _ _ h))
  · exact .inl (.inr ⟨o, s _ _ h⟩)
  · exact .inr h
theorem seqL_same {K : PySem.W.Frag} {H H' : Hp} {p : Addr} {xs : List V} (h : SqL K H p xs) (s : Same H H') : SqL K H' p xs := s.seq h
/-- == of scalars in short -/
abbrev eI (a b : Int) : Bool := decide (V.int a = V.int b)
abbrev eS (a b : Str) : Bool := decide (V.str a = V.str b)
theorem eI_eq (a b : Int) : eI a b = decide (a = b) := by simp
theorem eS_eq (a b : Str) : eS a b = decide (a = b) := by simp
end L2.A

namespace L2.A
open PySem PySem.Spec PyProof.Rows
section
variable {σ : St} {H : Hp} {Q : VK}
/-! ### displays of dicts -/
def kvOf (p : V × V) : Key × V := (match p.1 with | .str x => Sum.inr x | .int i => Sum.inl i | _ => Sum.inl 0, p.2)
def DispK (p : Addr) (ps : List (V × V)) (H2 : Hp) (Q : VK) : Prop := H2 p = some (.dK []) ∧ ∃ kvs : List (Key × V), ps = kvs.map (fun kv => (kV kv.1, kv.2)) ∧ kvs.length ≤ 15 ∧ Q (.ref p) (upd H2 p (.dK (mergeK [] kvs)))
def DispN (trs : List (TE × TE)) (σ : St) (H : Hp) (Q : VK) : Prop := ∀ p, H p = none → tPairs trs σ (upd H p (.dK [])) fun ps H2 => DispK p ps H2 Q
theorem go_disp {trs : List (TE × TE)} (h : DispN trs σ H Q) : tDisp trs σ H Q := h
theorem go_pairs {tk tv : TE} {r : List (TE × TE)} {R : List (V × V) → Hp → Prop} (h : tk σ H fun k H1 => tv σ H1 fun v H2 => tPairs r σ H2 fun ps H3 => R ((k, v) :: ps) H3) : tPairs ((tk, tv) :: r) σ H R := h
theorem go_pairs0 {R : List (V × V) → Hp → Prop} (h : R [] H) : tPairs [] σ H R := h
theorem go_dispK {p : Addr} {ps : List (V × V)} (h0 : H p = some (.dK [])) (e : ps = (ps.map kvOf).map (fun kv => (kV kv.1, kv.2))) (hl : Nat.ble (ps.map kvOf).length 15 = true) (h : Q (.ref p) (upd H p (.dK (mergeK [] (ps.map kvOf))))) : DispK p ps H Q :=
  ⟨h0, _, e, Nat.le_of_ble_eq_true hl, h⟩
end
end L2.A

namespace L2.A
open PySem PySem.Spec PyProof.Rows
theorem upd_free {H : Hp} {a b : Addr} {o : HO} (h : upd H a o b = none) : H b = none := by
  by_cases e : b = a
  · subst e; rw [upd_same] at h; cases h
  · rw [upd_ne e] at h; exact h
end L2.A

namespace L2.A
open PySem PySem.Spec PyProof.Rows
/-- a statement that lays nothing: the slots behind it told -/
theorem go_cutP {t u : TS} {D : Ends} {σ : St} {H : Hp} (σ1 : St) (h1 : t { D with nx := fun σ' H' => σ' = σ1 ∧ H' = H } σ H) (h2 : u D σ1 H) : tCut t u D σ H := ⟨_, h1, fun _ _ ⟨e1, e2⟩ => by rw [e1, e2]; exact h2⟩
/-- .. that may lay new objects -/
theorem go_cutS {t u : TS} {D : Ends} {σ : St} {H : Hp} (σ1 : St) (h1 : t { D with nx := fun σ' H' => σ' = σ1 ∧ Same H H' } σ H) (h2 : ∀ H', Same H H' → u D σ1 H') : tCut t u D σ H := ⟨_, h1, fun _ _ ⟨e1, e2⟩ => by rw [e1]; exact h2 _ e2⟩
end L2.A

namespace L2.A
open PySem PySem.Spec PyProof.Rows
section
variable {X : Cx} {K : PySem.W.Frag} {σ : St} {H : Hp} {Q : VK}
/-! ### slices -/
def PartI (x : V) (H : Hp) (R : Option Int → Hp → Prop) : Prop := ∃ i, x = .int i ∧ R (some i) H
theorem go_sl {r : V → Option Int → Option Int → Hp → VK → Prop} {te : TE} {tl th : TO} (h : te σ H fun x H1 => tl σ H1 fun l H2 => th σ H2 fun u H3 => r x l u H3 Q) : tSl r te tl th σ H Q := h
theorem go_nopart {R : Option Int → Hp → Prop} (h : R none H) : tNoPart σ H R := h
theorem go_part {t : TE} {R : Option Int → Hp → Prop} (h : t σ H fun x H1 => PartI x H1 R) : tPart t σ H R := h
theorem go_partI {i : Int} {R : Option Int → Hp → Prop} (h : R (some i) H) : PartI (.int i) H R := ⟨i, rfl, h⟩
theorem go_slT {p : Addr} {xs ys : List V} {lo hi : Option Int} (hp : SqT K H p xs) (e : cutV xs lo hi = ys) (n : (Nat.beq (HT.sIx xs.length 0 lo) 0 && Nat.beq (HT.sIx xs.length xs.length hi) xs.length) = false) (h : NewO (.tup ys) H Q) : rSlX K (.ref p) lo hi H Q :=
  .inr (.inl ⟨p, xs, rfl, hp, fun ⟨z1, z2⟩ => by rw [z1, z2] at n; simp at n, by rw [e]; exact h⟩)
theorem go_slL {p : Addr} {xs ys : List V} {lo hi : Option Int} (hp : SqL K H p xs) (e : cutV xs lo hi = ys) (h : NewO (.lst ys) H Q) : rSlX K (.ref p) lo hi H Q := .inl ⟨p, xs, rfl, hp, by rw [e]; exact h⟩
theorem go_slS {z : Str} {lo hi : Option Int} (hz : z.length ≤ sizeLine) (h : Q (.str (cutS z lo hi)) H) : rSlX K (.str z) lo hi H Q := .inr (.inr ⟨z, rfl, hz, h⟩)
/-! ### min, max of three -/
def rMn3 : List V → Hp → VK → Prop := fun xs H Q => ∃ i j k : Int, xs = [.int i, .int j, .int k] ∧ Q (.int (min i (min j k))) H
def rMx3 : List V → Hp → VK → Prop := fun xs H Q => ∃ i j k : Int, xs = [.int i, .int j, .int k] ∧ Q (.int (max i (max j k))) H
theorem vals3 {x y z : V} {us : List Value} (r : Vals [x, y, z] us) : ∃ u v w', us = [u, v, w'] ∧ RelV x u ∧ RelV y v ∧ RelV z w' := by
  cases r with
  | cons r1 r2 =>
    obtain ⟨u, v, rfl, a, b⟩ := vals2 r2
    exact ⟨_, _, _, rfl, r1, a, b⟩
theorem call_mn3 (hc : X.calm = true) : CallR X (.builtin "min") rMn3 := by
  intro pins s σ H xs us Q I r h
  obtain ⟨i, j, k, rfl, q⟩ := h
  obtain ⟨u, v, w', rfl, ⟨t, rfl⟩, ⟨t', rfl⟩, ⟨t2, rfl⟩⟩ := vals3 r
  refine min_three_ints (I.ok.hd hc) fun h' tk hk => ⟨_, H, I.kept hk, ?_, q⟩
  by_cases h1 : j < i
  · by_cases h2 : k < j
    · rw [if_pos h1, if_pos h2]; exact ⟨_, by rw [show min i (min j k) = k by omega]⟩
    · rw [if_pos h1, if_neg h2]; exact ⟨_, by rw [show min i (min j k) = j by omega]⟩
  · by_cases h2 : k < i
    · rw [if_neg h1, if_pos h2]; exact ⟨_, by rw [show min i (min j k) = k by omega]⟩
    · rw [if_neg h1, if_neg h2]; exact ⟨_, by rw [show min i (min j k) = i by omega]⟩
theorem call_mx3 (hc : X.calm = true) : CallR X (.builtin "max") rMx3 := by
  intro pins s σ H xs us Q I r h
  obtain ⟨i, j, k, rfl, q⟩ := h
  obtain ⟨u, v, w', rfl, ⟨t, rfl⟩, ⟨t', rfl⟩, ⟨t2, rfl⟩⟩ := vals3 r
  refine max_three_ints (I.ok.hd hc) fun h' tk hk => ⟨_, H, I.kept hk, ?_, q⟩
  by_cases h1 : j > i
  · by_cases h2 : k > j
    · rw [if_pos h1, if_pos h2]; exact ⟨_, by rw [show max i (max j k) = k by omega]⟩
    · rw [if_pos h1, if_neg h2]; exact ⟨_, by rw [show max i (max j k) = j by omega]⟩
  · by_cases h2 : k > i
    · rw [if_neg h1, if_pos h2]; exact ⟨_, by rw [show max i (max j k) = k by omega]⟩
    · rw [if_neg h1, if_neg h2]; exact ⟨_, by rw [show max i (max j k) = i by omega]⟩
theorem go_min3 {a b c : Int} (h : Q (.int (min a (min b c))) H) : rMn3 [V.int a, V.int b, V.int c] H Q := ⟨a, b, c, rfl, h⟩
theorem go_max3 {a b c : Int} (h : Q (.int (max a (max b c))) H) : rMx3 [V.int a, V.int b, V.int c] H Q := ⟨a, b, c, rfl, h⟩
end
end L2.A

namespace L2.A
open PySem PySem.Spec PyProof.Rows
theorem ge2 {H H' : Hp} {a : Addr} {o : HO} (h : H a = some o) (s : Same H H') : H' a = some o := s a o h
end L2.A


namespace L2.A
open PySem PySem.Spec PyProof.Rows
/-! ### == of data at any depth -/
mutual
theorem Dp.same {K : PySem.W.Frag} {H H' : Hp} (s : Same H H') : ∀ (d : PyData) (v : V), Dp K H v d → Dp K H' v d
  | .none, _, h => by cases h; exact .non
  | .bool b, _, h => by cases h; exact .bl b
  | .int i, _, h => by cases h; exact .int i
  | .str x, _, h => by cases h; exact .str x
  | .list ds, _, h => by
    cases h with
    | lst hs ha => exact .lst (s.seq hs) (Dp.sameAll s ds _ ha)
  | .tuple ds, _, h => by
    cases h with
    | tup hs ha => exact .tup (seqT_same hs s) (Dp.sameAll s ds _ ha)
  | .dict _, _, h => by cases h
theorem Dp.sameAll {K : PySem.W.Frag} {H H' : Hp} (s : Same H H') : ∀ (ds : List PyData) (vs : List V), DpAll K H vs ds → DpAll K H' vs ds
  | [], _, h => by cases h; exact .nil
  | d :: ds, _, h => by
    cases h with
    | cons h1 h2 => exact .cons (Dp.same s d _ h1) (Dp.sameAll s ds _ h2)
end
/-- the datum of a scalar -/
def dV : V → PyData
  | .bl b => .bool b
  | .int i => .int i
  | .str x => .str x
  | _ => .none
theorem Dp.flat {K : PySem.W.Frag} {H : Hp} : ∀ {v : V}, flatV v = true → Dp K H v (dV v)
  | .non, _ => .non
  | .bl b, _ => .bl b
  | .int i, _ => .int i
  | .str x, _ => .str x
theorem DpAll.flat {K : PySem.W.Frag} {H : Hp} : ∀ {vs : List V}, vs.all flatV = true → DpAll K H vs (vs.map dV)
  | [], _ => .nil
  | v :: vs, h => by
    have h' : flatV v = true ∧ vs.all flatV = true := by simpa using h
    exact .cons (Dp.flat h'.1) (DpAll.flat h'.2)
/-- a scalar whose text may be laid -/
def okV : V → Bool
  | .non | .bl _ | .int _ => true
  | .str x => PySem.PyData.strOk x
  | _ => false
theorem okV_flat {v : V} (h : okV v = true) : flatV v = true := by cases v <;> simp_all [okV, flatV]
theorem okV_all {vs : List V} (h : vs.all okV = true) : vs.all flatV = true := by
  rw [List.all_eq_true] at h ⊢
  exact fun v m => okV_flat (h v m)
theorem lay_flat {v : V} (h : okV v = true) : (dV v).canLay0 = true := by cases v <;> simp_all [okV, dV, PyData.canLay0]
theorem layAll_flat : ∀ {vs : List V}, vs.all okV = true → PyData.canLayAll0 (vs.map dV) = true
  | [], _ => rfl
  | v :: vs, h => by
    have h' : okV v = true ∧ vs.all okV = true := by simpa using h
    simp only [List.map_cons, PyData.canLayAll0, lay_flat h'.1, layAll_flat h'.2, Bool.and_self]
theorem depth_flat {v : V} : (dV v).depth = 0 := by cases v <;> simp [dV, PyData.depth]
theorem depthAll_flat : ∀ {vs : List V}, PyData.depthAll (vs.map dV) = 0
  | [] => rfl
  | v :: vs => by simp only [List.map_cons, PyData.depthAll, depth_flat, depthAll_flat]; rfl
theorem shaped_tup {vs : List V} (h : vs.all okV = true) : SeqAt.shaped (.tuple (vs.map dV)) = true := by
  simp only [SeqAt.shaped, PyData.canLay0, layAll_flat h, PyData.depth, depthAll_flat]; rfl
theorem shaped_lst {vs : List V} (h : vs.all okV = true) : SeqAt.shaped (.list (vs.map dV)) = true := by
  simp only [SeqAt.shaped, PyData.canLay0, layAll_flat h, PyData.depth, depthAll_flat]; rfl
/-- == of rows of scalars -/
def eqVs (xs ys : List V) : Bool := PyData.eqvAll (xs.map dV) (ys.map dV)
theorem eqVs_refl {vs : List V} (h : vs.all okV = true) : eqVs vs vs = true := SeqAt.eqvAll_refl _ (layAll_flat h)
section
variable {K : PySem.W.Frag} {H : Hp} {Q : VK}
theorem go_eqT {p q : Addr} {xs ys : List V} (hp : SqT K H p xs) (hq : SqT K H q ys) (ox : xs.all okV = true) (oy : ys.all okV = true) (h : Q (.bl (eqVs xs ys)) H) : rEqX K (.ref p) (.ref q) H Q :=
  .inr ⟨_, _, .tup hp (DpAll.flat (okV_all ox)), .tup hq (DpAll.flat (okV_all oy)), shaped_tup ox, shaped_tup oy, by rw [PyData.eqv]; exact h⟩
theorem go_neT {p q : Addr} {xs ys : List V} (hp : SqT K H p xs) (hq : SqT K H q ys) (ox : xs.all okV = true) (oy : ys.all okV = true) (h : Q (.bl (!eqVs xs ys)) H) : rNeX K (.ref p) (.ref q) H Q :=
  .inr ⟨_, _, .tup hp (DpAll.flat (okV_all ox)), .tup hq (DpAll.flat (okV_all oy)), shaped_tup ox, shaped_tup oy, by rw [PyData.eqv]; exact h⟩
theorem go_eqL {p q : Addr} {xs ys : List V} (hp : SqL K H p xs) (hq : SqL K H q ys) (ox : xs.all okV = true) (oy : ys.all okV = true) (h : Q (.bl (eqVs xs ys)) H) : rEqX K (.ref p) (.ref q) H Q :=
  .inr ⟨_, _, .lst hp (DpAll.flat (okV_all ox)), .lst hq (DpAll.flat (okV_all oy)), shaped_lst ox, shaped_lst oy, by rw [PyData.eqv]; exact h⟩
theorem go_neL {p q : Addr} {xs ys : List V} (hp : SqL K H p xs) (hq : SqL K H q ys) (ox : xs.all okV = true) (oy : ys.all okV = true) (h : Q (.bl (!eqVs xs ys)) H) : rNeX K (.ref p) (.ref q) H Q :=
  .inr ⟨_, _, .lst hp (DpAll.flat (okV_all ox)), .lst hq (DpAll.flat (okV_all oy)), shaped_lst ox, shaped_lst oy, by rw [PyData.eqv]; exact h⟩
end
end L2.A


namespace L2.A
open PySem PySem.Spec PyProof.Rows
section
variable {X : Cx} {K : PySem.W.Frag}
/-! ### the same rules with the fragment named (within a comprehension's own context) -/
theorem op_addK (hK : X.K = K) : OpR X (binaryOp .Add) (rAddX K) := hK ▸ op_addX
theorem op_eqK (hK : X.K = K) (hu : X.A.units + 64 < cLine) : OpR X (compareOp .Eq) (rEqX K) := hK ▸ op_eqX hu
theorem op_neK (hK : X.K = K) (hu : X.A.units + 64 < cLine) : OpR X (compareOp .NotEq) (rNeX K) := hK ▸ op_neX hu
theorem op_inK (hK : X.K = K) (hu : X.A.units + 1 < cLine) : OpR X (compareOp .In) (rInX K) := hK ▸ op_inX hu
theorem op_notInK (hK : X.K = K) (hu : X.A.units + 1 < cLine) : OpR X (compareOp .NotIn) (rNotInX K) := hK ▸ op_notInX hu
theorem op_isK' (hK : X.K = K) : OpR X (compareOp .Is) (rIsX K) := hK ▸ op_isX
theorem op_isNotK' (hK : X.K = K) : OpR X (compareOp .IsNot) (rIsNotX K) := hK ▸ op_isNotX
theorem ix_K (hK : X.K = K) (hu : X.A.units + 1 < cLine) : IxR X (rIxX K) := hK ▸ ix_X hu
theorem sl_K (hK : X.K = K) : SlR X (rSlX K) := hK ▸ sl_X
theorem call_lenK (hK : X.K = K) : CallR X (.builtin "len") (rLenX K) := hK ▸ call_lenX
theorem call_isiK (hK : X.K = K) : CallR X (.builtin "isinstance") (rIsiX K) := hK ▸ call_isiX
theorem call_listK (hK : X.K = K) : CallR X (.type "list") (rListO K) := hK ▸ call_listO
theorem call_tupK (hK : X.K = K) : CallR X (.type "tuple") (rTupO K) := hK ▸ call_tupO
theorem pt_truK (hK : X.K = K) {a : Expr} {ta : TE} (ha : PE X a ta) (he : ∀ whole, isTrue a X.env whole = (do let v ← whole; standAt a.pos; holding [v] (truthy v)) := by intro _; rfl) : PT X a (tTruX K ta) := hK ▸ pt_truX ha he
theorem pi_K (hK : X.K = K) {tg l : Expr} {tl : TE} (hl : PE X l tl) : PI X tg l (iX K tl) := hK ▸ pi_X hl
theorem cr_sumK (hK : X.K = K) (hc : X.calm = true) : CallR X (.builtin "sum") (rSum K) := hK ▸ cr_sum hc
theorem cr_allK (hK : X.K = K) (hc : X.calm = true) : CallR X (.builtin "all") (rAll K) := hK ▸ cr_all hc
theorem cr_anyK (hK : X.K = K) (hc : X.calm = true) : CallR X (.builtin "any") (rAny K) := hK ▸ cr_any hc
theorem pg_tupK (hK : X.K = K) {es : List Expr} {k : Nat} {t : TGs} {n : Nat} {pos : Pos} (hc : X.calm = true) (h : PGs X es t)
    (hn : (assignEach es X.env).length = n := by rfl) (hst : (assignEach es X.env).findIdx? (·.1) = none := by rfl) : PG X (.Tuple es k pos) (gTup K n t) := hK ▸ pg_tup hc h hn hst
end
def BmW (K : PySem.W.Frag) (T : String) (rc : V → List V → Hp → VK → Prop) (ta : TA) (σ : St) (x : V) (H1 : Hp) (Q : VK) : Prop := tyV K T x H1 ∧ ta σ H1 fun vs H2 => rc x vs H2 Q
def BmW0 (K : PySem.W.Frag) (T : String) (rc : V → List V → Hp → VK → Prop) (x : V) (H1 : Hp) (Q : VK) : Prop := tyV K T x H1 ∧ rc x [] H1 Q
section
variable {K : PySem.W.Frag} {H : Hp} {Q : VK} {σ : St}
/-! ### bound methods -/
theorem go_bm {T : String} {rc : V → List V → Hp → VK → Prop} {te : TE} {ta : TA} (h : te σ H fun x H1 => BmW K T rc ta σ x H1 Q) : tBM K T rc te ta σ H Q := h
theorem go_bmW {T : String} {rc : V → List V → Hp → VK → Prop} {ta : TA} {x : V} (h1 : tyV K T x H) (h : ta σ H fun vs H2 => rc x vs H2 Q) : BmW K T rc ta σ x H Q := ⟨h1, h⟩
theorem go_bm0 {T : String} {rc : V → List V → Hp → VK → Prop} {te : TE} (h : te σ H fun x H1 => BmW0 K T rc x H1 Q) : tBM0 K T rc te σ H Q := h
theorem go_bmW0 {T : String} {rc : V → List V → Hp → VK → Prop} {x : V} (h1 : tyV K T x H) (h : rc x [] H Q) : BmW0 K T rc x H Q := ⟨h1, h⟩
theorem tyV_s {z : Str} : tyV K "str" (.str z) H := rfl
theorem tyV_l {p : Addr} {xs : List V} (h : SqL K H p xs) : tyV K "list" (.ref p) H := .inl ⟨rfl, xs, h⟩
theorem tyV_d {p : Addr} {kvs : List (Key × V)} (h : H p = some (.dK kvs)) : tyV K "dict" (.ref p) H := .inr (.inr (.inl ⟨rfl, .inl ⟨kvs, h⟩⟩))
theorem tyV_dT {p : Addr} {kvs} (h : H p = some (.dT kvs)) : tyV K "dict" (.ref p) H := .inr (.inr (.inl ⟨rfl, .inr ⟨kvs, h⟩⟩))
theorem go_append {l : Addr} {xs : List V} {y : V} (hl : H l = some (.lst xs)) (z : xs.length < 100000) (h : Q .non (upd H l (.lst (xs ++ [y])))) : rAppend (.ref l) [y] H Q := ⟨l, xs, y, rfl, rfl, hl, Nat.lt_of_lt_of_le z (by decide), h⟩
end
end L2.A

namespace L2.A
open PySem PySem.Spec PyProof.Rows
section
variable {σ σ' : St} {H : Hp} {D : Ends} {u v w : V} {i j l : Nat} {ta : TA}
def P3 (i j l : Nat) (σ : St) (D : Ends) (vs : List V) (H1 : Hp) : Prop := ∃ u v w, vs = [u, v, w] ∧ D.nx (((σ.set i (some u)).set j (some v)).set l (some w)) H1
def P2 (i j : Nat) (σ : St) (D : Ends) (vs : List V) (H1 : Hp) : Prop := ∃ u v, vs = [u, v] ∧ D.nx ((σ.set i (some u)).set j (some v)) H1
theorem go_par3 (h : ta σ H fun vs H1 => P3 i j l σ D vs H1) : tPar3 i j l ta D σ H := h
theorem go_par (h : ta σ H fun vs H1 => P2 i j σ D vs H1) : tPar i j ta D σ H := h
theorem go_p3 (e : ((σ.set i (some u)).set j (some v)).set l (some w) = σ') (h : D.nx σ' H) : P3 i j l σ D [u, v, w] H := ⟨u, v, w, rfl, by rw [e]; exact h⟩
theorem go_p2 (e : (σ.set i (some u)).set j (some v) = σ') (h : D.nx σ' H) : P2 i j σ D [u, v] H := ⟨u, v, rfl, by rw [e]; exact h⟩
end
theorem kp_mut {fp : Addr → Prop} {H H' : Hp} {l : Addr} {o : HO} (k : Kp fp H H') (h : H l = none) : Kp fp H (upd H' l o) := fun a u e n => by rw [upd_ne (ne_of_none e h)]; exact k a u e n
theorem kp_new {fp : Addr → Prop} {H H' : Hp} {l : Addr} {o : HO} (k : Kp fp H H') (h : H' l = none) : Kp fp H (upd H' l o) := k.trans (Kp.same (same_new h))
end L2.A

namespace L2.A
open PySem PySem.Spec PyProof.Rows
/-- a new object, the heap abstract -/
theorem go_new {o : HO} {H : Hp} {Q : VK} (h : ∀ p H', H p = none → Same H H' → H' p = some o → Q (.ref p) H') : NewO o H Q := fun p hp => h p _ hp (same_new hp) upd_same
/-- the same, from an earlier heap -/
theorem go_newS {o : HO} {H0 H : Hp} {Q : VK} (s : Same H0 H) (h : ∀ p H', H0 p = none → Same H0 H' → H' p = some o → Q (.ref p) H') : NewO o H Q := fun p hp => h p _ (s.free hp) (s.trans (same_new hp)) upd_same
end L2.A

namespace L2.A
open PySem PySem.Spec PyProof.Rows
section
variable {X : Cx} {K : PySem.W.Frag} {σ σ' : St} {H : Hp} {D : Ends} {Q : VK} {J : It} {n : Nat} {G : Hp → Prop} {Y : Nat → Hp → V → Hp → Prop}
/-! ### walks of any kind -/
theorem ForW.it (w : Walk J n G Y) {g : TG} {tb : TS} (Pv : Nat → St → Hp → Prop) (h0 : Pv 0 σ H) (hG : ∀ i σ H, i ≤ n → Pv i σ H → G H)
    (hs : ∀ i x σ H H', i < n → Pv i σ H → Y i H x H' → g x σ H' fun σ2 H2 => tb { D with nx := Pv (i + 1), ct := Pv (i + 1), bk := D.nx } σ2 H2) (hd : ∀ σ H, Pv n σ H → D.nx σ H) : ForW J g tb D σ H := for_it w Pv h0 hG hs hd
theorem LcW.it (w : Walk J n G Y) {H1 : Hp} {g : TG} {tt : TT} {te : TE} {vs : List Nat} (R : Addr → Nat → List V → Hp → Prop) (hz : n ≤ 100000) (h0 : ∀ D, H1 D = none → R D 0 [] (upd H1 D (.lst []))) (hG : ∀ D i ys H, H1 D = none → i ≤ n → H D = some (.lst ys) → R D i ys H → G H)
    (hs : ∀ D i x ys H H', H1 D = none → i < n → ys.length ≤ i → H D = some (.lst ys) → R D i ys H → Y i H x H' → ∀ (yes : V → Hp → Prop) (no : Hp → Prop),
      (∀ y H'', H'' D = some (.lst ys) → R D (i + 1) (ys ++ [y]) (upd H'' D (.lst (ys ++ [y]))) → yes y H'') → (∀ H'', H'' D = some (.lst ys) → R D (i + 1) ys H'' → no H'') →
      g x (wipe σ vs) H' fun σ2 H2 => wipe σ2 vs = wipe σ vs ∧ tt σ2 H2 fun b H3 => if b = true then te σ2 H3 yes else no H3)
    (hd : ∀ D ys H', H1 D = none → H' D = some (.lst ys) → ys.length ≤ n → R D n ys H' → Q (.ref D) H') : LcW J g tt te vs σ H1 Q := by
  intro D hD
  refine lc_it w (fun i H' => ∃ ys, H' D = some (.lst ys) ∧ ys.length ≤ i ∧ R D i ys H') ⟨[], upd_same, Nat.le_refl _, h0 D hD⟩ (fun i H' hi ⟨ys, e, _, r⟩ => hG D i ys H' hD hi e r) (fun i x H' H'' hi ⟨ys, e, hl, r⟩ y => ?_) fun H' ⟨ys, e, hl, r⟩ => hd D ys H' hD e hl r
  refine hs D i x ys H' H'' hD hi hl e r y _ _ (fun z H3 e3 r3 => ⟨ys, e3, ?_, ys ++ [z], upd_same, by rw [List.length_append]; show ys.length + 1 ≤ _; omega, r3⟩) fun H3 e3 r3 => ⟨ys, e3, by omega, r3⟩
  exact Nat.lt_of_le_of_lt hl (Nat.lt_of_lt_of_le hi (Nat.le_trans hz (by decide)))
/-! ### reversed(range), enumerate, zip -/
def RvR (a b : Int) (H1 : Hp) (R : It → Hp → Prop) : Prop := -(2 ^ 62) ≤ a ∧ a < 2 ^ 62 ∧ -(2 ^ 62) ≤ b ∧ b < 2 ^ 62 ∧ R (Itc (a + (((b - a).toNat : Nat) : Int) - 1) (-1) (b - a).toNat) H1
def Rg1 (x : V) (H1 : Hp) (Q : Int → Int → Hp → Prop) : Prop := ∃ n, x = .int n ∧ Q 0 n H1
theorem go_revR {tr : St → Hp → (Int → Int → Hp → Prop) → Prop} {R : It → Hp → Prop} (h : tr σ H fun a b H1 => RvR a b H1 R) : iRevR tr σ H R := h
theorem go_rg1 {ta : TE} {Q : Int → Int → Hp → Prop} (h : ta σ H fun x H1 => Rg1 x H1 Q) : tRg1 ta σ H Q := h
theorem go_rg1b {n : Int} {Q : Int → Int → Hp → Prop} (h : Q 0 n H) : Rg1 (.int n) H Q := ⟨n, rfl, h⟩
theorem go_rvR {b : Int} {R : It → Hp → Prop} (h1 : 0 ≤ b ∧ b ≤ 100000) (h : R (Itc (b - 1) (-1) b.toNat) H) : RvR 0 b H R := ⟨by omega, by omega, by omega, by omega, by rw [show (0 : Int) + (((b - 0).toNat : Nat) : Int) - 1 = b - 1 by omega, show (b - 0).toNat = b.toNat by omega]; exact h⟩
def EnW (K : PySem.W.Frag) (vs : List V) (H1 : Hp) (R : It → Hp → Prop) : Prop := ∃ a xs, vs = [.ref a] ∧ SqL K H1 a xs ∧ R (Ite K a) H1
theorem go_enum {ta : TA} {R : It → Hp → Prop} (h : ta σ H fun vs H1 => EnW K vs H1 R) : iEnum K ta σ H R := h
theorem go_enW {a : Addr} {xs : List V} {R : It → Hp → Prop} (hS : SqL K H a xs) (h : R (Ite K a) H) : EnW K [.ref a] H R := ⟨a, xs, rfl, hS, h⟩
def ZpW (K : PySem.W.Frag) (vs : List V) (H1 : Hp) (R : It → Hp → Prop) : Prop := ∃ a b xs ys, vs = [.ref a, .ref b] ∧ SqL K H1 a xs ∧ SqL K H1 b ys ∧ R (Itz K a b) H1
theorem go_zip {ta : TA} {R : It → Hp → Prop} (h : ta σ H fun vs H1 => ZpW K vs H1 R) : iZip K ta σ H R := h
theorem go_zpW {a b : Addr} {xs ys : List V} {R : It → Hp → Prop} (hS : SqL K H a xs) (hT : SqL K H b ys) (h : R (Itz K a b) H) : ZpW K [.ref a, .ref b] H R := ⟨a, b, xs, ys, rfl, hS, hT, h⟩
/-! ### name op= e, o[i] op= e -/
theorem ip_addX : PIp X .Add (fun x y H Q => rI0 (fun i j => .int (i + j)) x y H Q ∨ rStrA x y H Q ∨ rExt2 x y H Q) := iop_add.or (iop_add_str.or iop_ext)
def AugW (te : TE) (ti : TIp) (σ : St) (i : Nat) (D : Ends) (x : V) (H : Hp) : Prop := te σ H fun y H1 => ti x y H1 fun z H2 => D.nx (σ.set i (some z)) H2
theorem go_aug {i : Nat} {te : TE} {ti : TIp} {x : V} (e : σ[i]? = some (some x)) (h : te σ H fun y H1 => ti x y H1 fun z H2 => gName i z σ H2 D.nx) : tAug i te ti D σ H := ⟨x, e, h⟩
theorem go_ipI {f : Int → Int → Int} {a b : Int} (h : Q (.int (f a b)) H) : ipI f (.int a) (.int b) H Q := ⟨a, b, rfl, rfl, h⟩
theorem go_ipA {a b : Int} (h : Q (.int (a + b)) H) : (rI0 (fun i j => .int (i + j)) (.int a) (.int b) H Q ∨ rStrA (.int a) (.int b) H Q ∨ rExt2 (.int a) (.int b) H Q) := .inl ⟨a, b, rfl, rfl, h⟩
theorem go_ipS {a b : Str} (z : a.length + b.length ≤ sizeLine) (h : Q (.str (a ++ b)) H) : (rI0 (fun i j => .int (i + j)) (.str a) (.str b) H Q ∨ rStrA (.str a) (.str b) H Q ∨ rExt2 (.str a) (.str b) H Q) := .inr (.inl ⟨a, b, rfl, rfl, z, h⟩)
theorem go_ipL {a b : Addr} {xs ys : List V} (hp : H a = some (.lst xs)) (hq : H b = some (.lst ys)) (z : xs.length + ys.length ≤ sizeLine) (h : Q (.ref a) (upd H a (.lst (xs ++ ys)))) : (rI0 (fun i j => .int (i + j)) (.ref a) (.ref b) H Q ∨ rStrA (.ref a) (.ref b) H Q ∨ rExt2 (.ref a) (.ref b) H Q) := .inr (.inr ⟨a, b, xs, ys, rfl, rfl, hp, hq, z, h⟩)
end
/-! ### lists told by a function of the place -/
def lstF (n : Nat) (f : Nat → V) : List V := (List.range n).map f
theorem lstF_len {n : Nat} {f : Nat → V} : (lstF n f).length = n := by simp [lstF]
theorem lstF_at {n : Nat} {f : Nat → V} {i : Nat} (h : i < n) : (lstF n f)[i]? = some (f i) := by simp [lstF, h]
theorem lstF_atI {n : Nat} {f : Nat → V} {i : Int} (h0 : 0 ≤ i) (h1 : i < n) : atI (lstF n f) i = some (f i.toNat) := by
  obtain ⟨j, rfl⟩ : ∃ j : Nat, i = (j : Int) := ⟨i.toNat, by omega⟩
  exact atI_nat (lstF_at (by omega))
theorem lstF_last {n : Nat} {f : Nat → V} : atI (lstF (n + 1) f) (-1) = some (f n) := by
  have e : ixN (n + 1) (-1) = some n := by
    unfold ixN
    rw [if_neg (by omega), if_pos (by omega)]
    congr 1
    omega
  unfold atI
  rw [lstF_len, e]
  exact lstF_at (by omega)
theorem lstF_app {n : Nat} {f : Nat → V} {v : V} : lstF n f ++ [v] = lstF (n + 1) (fun i => if i = n then v else f i) := by
  unfold lstF
  rw [List.range_succ, List.map_append]
  congr 1
  · refine List.map_congr_left fun i hi => ?_
    rw [if_neg (by have := List.mem_range.mp hi; omega)]
  · simp
theorem lstF_set {n k : Nat} {f : Nat → V} {v : V} (h : k < n) : (lstF n f).set k v = lstF n (fun i => if i = k then v else f i) := by
  apply List.ext_getElem?
  intro i
  unfold lstF
  rw [List.getElem?_set]
  by_cases e : k = i
  · subst e
    simp [h]
  · rw [if_neg e]
    by_cases l : i < n
    · simp [l, Ne.symm e]
    · simp [l]
theorem lstF_congr {n : Nat} {f g : Nat → V} (h : ∀ i, i < n → f i = g i) : lstF n f = lstF n g := List.map_congr_left fun i hi => h i (List.mem_range.mp hi)
theorem lstF_cut {n m : Nat} {f : Nat → V} (h : m ≤ n) : cutV (lstF n f) none (some (m : Int)) = lstF m f := by
  unfold cutV
  rw [HT.sIx_nat, HT.sIx_none, lstF_len, Nat.min_eq_left h, List.drop_zero, Nat.sub_zero]
  unfold lstF
  rw [← List.map_take, List.take_range, Nat.min_eq_left h]
theorem lstF_of (xs : List V) (d : V) : xs = lstF xs.length (fun i => xs.getD i d) := by
  apply List.ext_getElem?
  intro i
  by_cases l : i < xs.length
  · rw [lstF_at l]; simp [l]
  · simp [lstF, l]
end L2.A

namespace L2.A
open PySem PySem.Spec PyProof.Rows
theorem DpAll.map {K : PySem.W.Frag} {H : Hp} {α : Type} {f : α → V} {g : α → PyData} : ∀ {xs : List α}, (∀ x ∈ xs, Dp K H (f x) (g x)) → DpAll K H (xs.map f) (xs.map g)
  | [], _ => .nil
  | x :: xs, h => .cons (h x (List.mem_cons_self ..)) (DpAll.map fun y m => h y (List.mem_cons_of_mem _ m))
theorem canAll_map {α : Type} {g : α → PyData} : ∀ {xs : List α}, (∀ x ∈ xs, (g x).canLay0 = true) → PyData.canLayAll0 (xs.map g) = true
  | [], _ => rfl
  | x :: xs, h => by
    simp only [List.map_cons, PyData.canLayAll0, h x (List.mem_cons_self ..), canAll_map fun y m => h y (List.mem_cons_of_mem _ m), Bool.and_self]
theorem depthAll_map {α : Type} {g : α → PyData} {d : Nat} : ∀ {xs : List α}, (∀ x ∈ xs, (g x).depth ≤ d) → PyData.depthAll (xs.map g) ≤ d
  | [], _ => Nat.zero_le _
  | x :: xs, h => by
    simp only [List.map_cons, PyData.depthAll]
    exact Nat.max_le.mpr ⟨h x (List.mem_cons_self ..), depthAll_map fun y m => h y (List.mem_cons_of_mem _ m)⟩
theorem shaped_of {d : PyData} (h1 : d.canLay0 = true) (h2 : d.depth ≤ 64) : SeqAt.shaped d = true := by
  unfold SeqAt.shaped
  rw [h1, decide_eq_true h2]; rfl
theorem go_eqD {K : PySem.W.Frag} {H : Hp} {Q : VK} {x y : V} {d e : PyData} (h1 : Dp K H x d) (h2 : Dp K H y e) (s1 : SeqAt.shaped d = true) (s2 : SeqAt.shaped e = true) (h : Q (.bl (PyData.eqv d e)) H) : rEqX K x y H Q := .inr ⟨d, e, h1, h2, s1, s2, h⟩
theorem go_neD {K : PySem.W.Frag} {H : Hp} {Q : VK} {x y : V} {d e : PyData} (h1 : Dp K H x d) (h2 : Dp K H y e) (s1 : SeqAt.shaped d = true) (s2 : SeqAt.shaped e = true) (h : Q (.bl (!PyData.eqv d e)) H) : rNeX K x y H Q := .inr ⟨d, e, h1, h2, s1, s2, h⟩
theorem go_eqDs {K : PySem.W.Frag} {H : Hp} {Q : VK} {x y : V} {d : PyData} (h1 : Dp K H x d) (h2 : Dp K H y d) (s1 : d.canLay0 = true) (s2 : d.depth ≤ 64) (h : Q (.bl true) H) : rEqX K x y H Q :=
  go_eqD h1 h2 (shaped_of s1 s2) (shaped_of s1 s2) (by rw [SeqAt.eqv_refl d s1]; exact h)
theorem go_neDs {K : PySem.W.Frag} {H : Hp} {Q : VK} {x y : V} {d : PyData} (h1 : Dp K H x d) (h2 : Dp K H y d) (s1 : d.canLay0 = true) (s2 : d.depth ≤ 64) (h : Q (.bl false) H) : rNeX K x y H Q :=
  go_neD h1 h2 (shaped_of s1 s2) (shaped_of s1 s2) (by rw [SeqAt.eqv_refl d s1]; exact h)
end L2.A

namespace L2.A
open PySem PySem.Spec PyProof.Rows
theorem lstF_cutM {n m : Nat} {f : Nat → V} : cutV (lstF n f) none (some (m : Int)) = lstF (min m n) f := by
  unfold cutV
  rw [HT.sIx_nat, HT.sIx_none, lstF_len, List.drop_zero, Nat.sub_zero]
  unfold lstF
  rw [← List.map_take, List.take_range, Nat.min_eq_left (Nat.min_le_right _ _)]
theorem cut_take {xs : List V} {k : Nat} (h : k ≤ xs.length) : cutV xs none (some (k : Int)) = xs.take k := by
  unfold cutV
  rw [HT.sIx_nat, HT.sIx_none, List.drop_zero, Nat.sub_zero, Nat.min_eq_left h]
theorem cut_drop {xs : List V} {k : Nat} (h : k ≤ xs.length) : cutV xs (some (k : Int)) none = xs.drop k := by
  unfold cutV
  rw [HT.sIx_nat, HT.sIx_none, Nat.min_eq_left h]
  exact List.take_of_length_le (by rw [List.length_drop]; omega)
theorem perm_eq : ∀ {xs ys : List Int}, xs.Perm ys → xs.Pairwise (· ≤ ·) → ys.Pairwise (· ≤ ·) → xs = ys
  | [], ys, p, _, _ => p.symm.eq_nil.symm
  | x :: xs, [], p, _, _ => p.eq_nil
  | x :: xs, y :: ys, p, hx, hy => by
    have h1 : x ≤ y := by
      rcases List.mem_cons.mp (p.symm.subset (List.mem_cons_self ..) : y ∈ x :: xs) with e | m
      · omega
      · exact List.rel_of_pairwise_cons hx m
    have h2 : y ≤ x := by
      rcases List.mem_cons.mp (p.subset (List.mem_cons_self ..) : x ∈ y :: ys) with e | m
      · omega
      · exact List.rel_of_pairwise_cons hy m
    obtain rfl : x = y := by omega
    rw [perm_eq ((List.perm_cons x).mp p) (List.Pairwise.of_cons hx) (List.Pairwise.of_cons hy)]
theorem ints_ok (ns : List Int) : (ns.map V.int).all okV = true := by
  rw [List.all_eq_true]
  intro v m
  obtain ⟨i, _, rfl⟩ := List.mem_map.mp m
  rfl
theorem go_sorted {K : PySem.W.Frag} {H : Hp} {Q : VK} {a : Addr} {ns : List Int} (hS : SqL K H a (ns.map V.int)) (hz : ns.length < 64) (h : ∀ (ns' : List Int) (p : Addr), ns'.Perm ns → ns'.Pairwise (· ≤ ·) → H p = none → Q (.ref p) (upd H p (.lst (ns'.map V.int)))) : rSorted K [.ref a] H Q := ⟨a, ns, rfl, hS, hz, h⟩
end L2.A

namespace L2.A
open PySem PySem.Spec PyProof.Rows
theorem go_mulL {H : Hp} {Q : VK} {l : Addr} {k : Int} {xs : List V} (hp : H l = some (.lst xs)) (h0 : 0 ≤ k ∧ k ≤ 1000) (z : xs.length ≤ 100) (h : NewO (.lst (List.replicate k.toNat xs).flatten) H Q) : rMulX (.ref l) (.int k) H Q :=
  (.inr ∘ .inl) ⟨l, k, xs, rfl, rfl, hp, by omega, by omega, Nat.le_trans (Nat.mul_le_mul z (show k.toNat ≤ 1000 by omega)) (by decide), h⟩
end L2.A

namespace L2.A
open PySem PySem.Spec PyProof.Rows
section
variable {K : PySem.W.Frag} {H : Hp} {Q : VK}
/-! ### methods of texts -/
theorem go_joinL {a : Str} {p : Addr} {ys : List Str} (hp : SqL K H p (ys.map V.str)) (z : (ys.map (·.length)).sum + ys.length * a.length ≤ 16777216) (h : Q (.str (Txt.join a ys)) H) :
    (∃ a' p', ∃ ys' : List Str, V.str a = .str a' ∧ [V.ref p] = [.ref p'] ∧ (SqL K H p' (ys'.map V.str) ∨ SqT K H p' (ys'.map V.str)) ∧ (ys'.map (·.length)).sum + ys'.length * a'.length ≤ 16777216 ∧ Q (.str (Txt.join a' ys')) H) := ⟨a, p, ys, rfl, rfl, .inl hp, z, h⟩
theorem go_split {a b : Str} (h1 : (b.length == 0) = false) (h2 : a.length ≤ 10000) (h : NewO (.lst ((Txt.split a b).map V.str)) H Q) :
    (∃ a' b', V.str a = .str a' ∧ [V.str b] = [.str b'] ∧ (b'.length == 0) = false ∧ a'.length + 2 ≤ sizeLine ∧ rNewStrs (Txt.split a' b') H Q) := ⟨a, b, rfl, rfl, h1, Nat.le_trans (show a.length + 2 ≤ 10002 by omega) (by decide), h⟩
theorem go_starts {a b : Str} (h : Q (.bl (Txt.startswith a b)) H) : (∃ a' b', V.str a = .str a' ∧ [V.str b] = [.str b'] ∧ Q (.bl (Txt.startswith a' b')) H) := ⟨a, b, rfl, rfl, h⟩
theorem go_find {a b : Str} (h : Q (.int (Txt.find a b)) H) : (∃ a' b', V.str a = .str a' ∧ [V.str b] = [.str b'] ∧ Q (.int (Txt.find a' b')) H) := ⟨a, b, rfl, rfl, h⟩
end
end L2.A

namespace L2.A
open PySem PySem.Spec PyProof.Rows
theorem cutS_le {z : Str} {lo hi : Option Int} : (cutS z lo hi).length ≤ z.length := by
  have e : (cutS z lo hi).length = ((z.cps.toList.drop (HT.sIx z.length 0 lo)).take (HT.sIx z.length z.length hi - HT.sIx z.length 0 lo)).length := by
    unfold cutS
    exact List.size_toArray ..
  rw [e, List.length_take, List.length_drop]
  have h : z.length = z.cps.toList.length := (Array.length_toList ..).symm
  omega
end L2.A

namespace L2.A
open PySem PySem.Spec PyProof.Rows
/-- a statement that is never reached -/
def tDead : TS := fun _ _ _ => False
theorem ps_dead {X : Cx} {st : Stmt} : PS X st tDead := ⟨fun _ _ _ _ _ _ h => False.elim h⟩
end L2.A


namespace L2.A
open PySem PySem.Spec PyProof.Rows
/-! ### B.__init__(self, ..), B an own exception class without __init__ -/
def biB (K : PySem.W.Frag) (B : Addr) : Bool :=
  decide (PySem.W.specialIn K (.ref B) "__getattribute__" = some (some (.builtin "type.__getattribute__"))) && (decide (PySem.W.typeIn K (.ref B) = some (.type "type")) && (PySem.W.readsIn K B (.type "type") &&
    (match PySem.W.findCls K (.ref B) (.type "type") "__init__" with
      | some (.val v) => decide (v = .builtin "ValueError.__init__")
      | _ => false)))
section
variable {X : Cx} {o e : Expr} {es : List Expr} {to te : TE} {ta : TA} {f : Str} {p p' p1 p2 pos : Pos} {x : Str} {B : Addr}
theorem pe_binit {pl : Sem Bool} (hg : Gl X x) (hm : X.mg x = some (.ref B)) (bb : biB X.K B = true) (ha : PA X (e :: es) ta) (hdb : (x == ("__debug__" : Str)) = false := by decide)
    (hc : eval (.Call (.Attribute (.Name x p1) "__init__" p2) (e :: es) [] pos) X.env = (do
      let ov ← eval (.Name x p1) X.env
      standAt p2.atName
      let (f, first) ← holding [ov] (getMethod ov "__init__" pl)
      callWith pos f first (backTo pos (starEach (e :: es) X.env)) (backToKw pos (keywordEach [] X.env))) := by rfl)
    (he : starEach (e :: es) X.env = (false, eval e X.env) :: starEach es X.env := by rfl) (hpl : (backTo pos (starEach es X.env)).any (·.1) = false := by rfl) :
    PE X (.Call (.Attribute (.Name x p1) "__init__" p2) (e :: es) [] pos) (tVeI X.K ta) := by
  unfold biB at bb
  rw [Bool.and_eq_true, Bool.and_eq_true, Bool.and_eq_true] at bb
  obtain ⟨b1, b2, b3, b4⟩ := bb
  have b1 := of_decide_eq_true b1
  have b2 := of_decide_eq_true b2
  have b5 : PySem.W.findCls X.K (.ref B) (.type "type") "__init__" = some (.val (.builtin "ValueError.__init__")) := by
    revert b4
    cases PySem.W.findCls X.K (.ref B) (.type "type") "__init__" with
    | none => intro h; cases h
    | some r =>
      cases r with
      | val v => intro h; rw [of_decide_eq_true h]
      | get _ _ _ _ => intro h; cases h
  refine ⟨fun pins s σ H Q I h => ?_⟩
  refine PySem.W.methodCall_KW (ld_glob I hg hm ?_ hdb) hc
  obtain ⟨m, fr⟩ := I.fr
  refine PySem.W.method_of_cls fr I.ok.mod.kin b1 ?_
  refine PySem.W.cls_val fr I.ok.mod.kin b2 b3 b5 (by decide +kernel) ?_
  show wpAny _ _ (callWith pos (Value.builtin "ValueError.__init__") [] (backTo pos (starEach (e :: es) X.env)) []) _ _ _
  refine PyProof.Rows.callWith_method1 (thn (ha.run pos pins _ σ H _ (I.tok _) h) fun us s1 ⟨vs, H1, I1, r1, a, C, ws, ev, hl, T, ea, q⟩ => ?_) he hpl
  subst ev
  cases r1 with
  | @cons _ u0 _ ur ra rw' =>
    obtain rfl : u0 = Value.ref a := ra
    have hlen : ur.length ≤ sizeLine := by
      rw [← Paired.length rw', sizeLine_eq]
      omega
    exact oinit_ok T I1 ea hlen fun s' J => ⟨.non, H1, J, rfl, q⟩
end
/-! ### a head by facts with any more that the fragment decides -/
def frX (n : Nat) (g : Addr → Option Obj) : PySem.W.Frag := He.frG g (cStatics :: He.asD g n)
def obsXG (n : Nat) (fa : List He.Fa) (fn : List He.DefD) (xs : List (PySem.W.Frag → Bool)) (g : Addr → Option Obj) : Bool × He.AlD := (xs.all fun f => f (frX n g), He.obsD fa fn (frX n g))
def hookX (n : Nat) (fa : List He.Fa) (fn : List He.DefD) (xs : List (PySem.W.Frag → Bool)) : PySem.W.Hook where
  α := Bool × He.AlD
  obs := fun s => obsXG n fa fn xs s.heap.get?
  val := fun _ => (true, He.valD fn)
  says := fun _ h => ∃ K : PySem.W.Frag, K.In h ∧ He.SaysD fa fn K ∧ (xs.all fun f => f K) = true
  of := fun _ _ e => ⟨_, He.frG_in, (Prod.ext_iff.mp e).2, (Prod.ext_iff.mp e).1⟩
  keeps := fun _ _ _ ⟨K, hK, c⟩ k => ⟨K, PySem.W.Frag.In.keeps hK k, c⟩
theorem obsXG_eq {n : Nat} {fa : List He.Fa} {fn : List He.DefD} {xs : List (PySem.W.Frag → Bool)} {g : Addr → Option Obj} {s : Shared} (h : ∀ a, g a = s.heap.get? a) : obsXG n fa fn xs g = (hookX n fa fn xs).obs s := by
  have e : g = s.heap.get? := funext h
  rw [e] <;> rfl
theorem more_fact {xs : List (PySem.W.Frag → Bool)} {K : PySem.W.Frag} (c : (xs.all fun f => f K) = true) (i : Nat) {f : PySem.W.Frag → Bool} (h : xs[i]? = some f := by rfl) : f K = true := List.all_eq_true.mp c f (List.mem_of_getElem? h)
end L2.A

namespace L2.A
open PySem PySem.Spec PyProof.Rows
/-- what the fragment must say of an own exception class, as a test -/
def oexB (K : PySem.W.Frag) (C : Addr) : Bool :=
  (match K.lookup C with
    | some ⟨.type "type", _, .cls cd, sl⟩ => (match cd.mro, sl.toList with
      | .ref C' :: bm, [_, _, _, _, some (.builtin n), _] => C' == C && n == "ValueError.__new__" && !cd.hasDel && cd.hasDict && PySem.HandSPX.refsVE bm
      | _, _ => false)
    | _ => false) && (decide (PySem.W.findIn K (.ref C) "__setattr__" = some (some (.builtin "object.__setattr__"))) && (decide (PySem.W.subIn K (.ref C) (.type "BaseException") = some true) && (decide (PySem.W.typeIn K (.ref C) = some (.type "type")) && PySem.W.keepIn K (.ref C))))
theorem oexB_ok {K : PySem.W.Frag} {C : Addr} (h : oexB K C = true) : OexC K C := by
  unfold oexB at h
  rw [Bool.and_eq_true, Bool.and_eq_true, Bool.and_eq_true, Bool.and_eq_true] at h
  obtain ⟨q, b1, b2, b3, b4⟩ := h
  refine ⟨?_, of_decide_eq_true b1, of_decide_eq_true b2, of_decide_eq_true b3, b4⟩
  split at q
  · rename_i dd cd sl ho
    split at q
    · rename_i C' bm k0 k1 k2 k3 n k5 hm hs
      simp only [Bool.and_eq_true, beq_iff_eq, Bool.not_eq_true'] at q
      obtain ⟨⟨⟨⟨rfl, rfl⟩, hdel⟩, hdct⟩, ht⟩ := q
      obtain ⟨nm, bs, mro, ns, qn, hd, sn, sub, ab, col, del⟩ := cd
      dsimp only at hm hdel hdct
      subst hm hdel hdct
      have hsl : sl = #[k0, k1, k2, k3, some (.builtin "ValueError.__new__"), k5] := by
        obtain ⟨l⟩ := sl
        simp only at hs
        rw [hs]
      subst hsl
      exact ⟨nm, qn, ns, bs, bm, sn, sub, ab, col, dd, k0, k1, k2, k3, k5, ho, ht⟩
    · cases q
  · cases q
end L2.A


namespace L2.A
open PySem PySem.Spec PyProof.Rows
/-! ### own classes: methods and instances by name -/
structure MtD (P : Program) (w : World) (K : PySem.W.Frag) (mg : Str → Option Value) (base : Heap) (CX : CXT) (k : Nat) (C : Addr) (m : Str) (ps : List Str) (dvs : List V) (sp : Sp) : Prop where
  ex : ∃ (f : Addr) (fd : FuncData) (ds : List Value), FnOk P w K mg base CX k f fd ps sp ∧ Meth K C m f ∧ Cls K C ∧ Binds K fd ps ds ∧ Vals dvs ds
structure MkD (P : Program) (w : World) (K : PySem.W.Frag) (mg : Str → Option Value) (base : Heap) (CX : CXT) (k : Nat) (C : Addr) (x : Str) (ps : List Str) (dvs : List V) (sp : Sp) : Prop where
  ex : ∃ (f : Addr) (fd : FuncData) (ds : List Value), FnOk P w K mg base CX k f fd ps sp ∧ Mk K C f ∧ mg x = some (.ref C) ∧ Binds K fd ps ds ∧ Vals dvs ds
section
variable {X : Cx} {CX : CXT} {k : Nat} {ps : List Str} {dvs : List V} {sp : Sp} {E : XK} {x m : Str} {p apos pos : Pos} {o e : Expr} {es : List Expr} {t : TA} {ta : TE} {C : Addr}
theorem pe_mth {pl : Sem Bool} (D : MtD X.prog X.w X.K X.mg X.base CX k C m ps dvs sp) (hr : Room k X.A) (hx : Passes CX X E) (he : PE X o ta) (ha : PA X (e :: es) t)
    (hst : starEach (e :: es) X.env = (false, eval e X.env) :: starEach es X.env := by rfl) (hpl : (backTo pos (starEach es X.env)).any (·.1) = false := by rfl)
    (ht : eval (.Call (.Attribute o m apos) (e :: es) [] pos) X.env = (do
      let ov ← eval o X.env
      standAt apos.atName
      let (f, first) ← holding [ov] (getMethod ov m pl)
      callWith pos f first (backTo pos (starEach (e :: es) X.env)) (backToKw pos (keywordEach [] X.env))) := by rfl) : PE X (.Call (.Attribute o m apos) (e :: es) [] pos) (tMeth C m sp dvs E ta t) := by
  obtain ⟨f, fd, ds, F, hm, c, hb, hv⟩ := D.ex
  exact pe_meth he c hm F hr hb hv hx ha hst hpl ht
theorem pe_mth0 {pl : Sem Bool} (D : MtD X.prog X.w X.K X.mg X.base CX k C m ps dvs sp) (hr : Room k X.A) (hx : Passes CX X E) (he : PE X o ta)
    (ht : eval (.Call (.Attribute o m apos) [] [] pos) X.env = (do
      let ov ← eval o X.env
      standAt apos.atName
      let (f, first) ← holding [ov] (getMethod ov m pl)
      callWith pos f first (backTo pos (starEach [] X.env)) (backToKw pos (keywordEach [] X.env))) := by rfl) : PE X (.Call (.Attribute o m apos) [] [] pos) (tMeth C m sp dvs E ta tNil) := by
  obtain ⟨f, fd, ds, F, hm, c, hb, hv⟩ := D.ex
  exact pe_meth0 he c hm F hr hb hv hx ht
theorem pe_mke (D : MkD X.prog X.w X.K X.mg X.base CX k C x ps dvs sp) (hr : Room (k + 1) X.A) (hg : Gl X x) (hx : Passes CX X E) (ha : PA X (e :: es) t) (hdb : (x == ("__debug__" : Str)) = false := by decide)
    (he : starEach (e :: es) X.env = (false, eval e X.env) :: starEach es X.env := by rfl) (hpl : (backTo pos (starEach es X.env)).any (·.1) = false := by rfl) : PE X (.Call (.Name x p) (e :: es) [] pos) (tMake C sp dvs E t) := by
  obtain ⟨f, fd, ds, F, M, hm, hb, hv⟩ := D.ex
  exact pe_make M F hr hg hm hb hv hx ha hdb he hpl
theorem pe_mke0 (D : MkD X.prog X.w X.K X.mg X.base CX k C x ps dvs sp) (hr : Room (k + 1) X.A) (hg : Gl X x) (hx : Passes CX X E) (hdb : (x == ("__debug__" : Str)) = false := by decide) : PE X (.Call (.Name x p) [] [] pos) (tMake C sp dvs E tNil) := by
  obtain ⟨f, fd, ds, F, M, hm, hb, hv⟩ := D.ex
  exact pe_make0 M F hr hg hm hb hv hx hdb
end
section
variable {K : PySem.W.Frag} {σ : St} {H : Hp} {D : Ends} {Q : VK} {ta tv : TE} {t : TA} {f m : Str} {a C dx : Addr} {fs fs' : List (Str × V)} {v y : V} {sp : Sp} {dvs : List V} {E : XK}
def FldW (K : PySem.W.Frag) (f : Str) (x : V) (H1 : Hp) (Q : VK) : Prop := ∃ a C dx fs v, x = .ref a ∧ H1 a = some (.ins C dx fs) ∧ Cls K C ∧ NoAttr K C f ∧ fs.lookup f = some v ∧ Q v H1
theorem go_fld (h : ta σ H fun x H1 => FldW K f x H1 Q) : tFld K ta f σ H Q := h
theorem go_fldW (hp : H a = some (.ins C dx fs)) (c : Cls K C) (n : NoAttr K C f) (l : fs.lookup f = some v) (h : Q v H) : FldW K f (.ref a) H Q := ⟨a, C, dx, fs, v, rfl, hp, c, n, l, h⟩
def SFldW (K : PySem.W.Frag) (f : Str) (y : V) (D : Ends) (σ : St) (x : V) (H2 : Hp) : Prop := ∃ a C dx fs, x = .ref a ∧ H2 a = some (.ins C dx fs) ∧ Cls K C ∧ NoAttr K C f ∧ fs.length < 1000 ∧ D.nx σ (upd H2 a (.ins C dx (putF f y fs)))
theorem go_sfld (h : tv σ H fun y H1 => ta σ H1 fun x H2 => SFldW K f y D σ x H2) : sFld K ta tv f D σ H := h
theorem go_sfldW (hp : H a = some (.ins C dx fs)) (c : Cls K C) (n : NoAttr K C f) (z : Nat.ble fs.length 900 = true) (e : putF f y fs = fs') (h : D.nx σ (upd H a (.ins C dx fs'))) : SFldW K f y D σ (.ref a) H :=
  ⟨a, C, dx, fs, rfl, hp, c, n, Nat.lt_of_le_of_lt (Nat.le_of_ble_eq_true z) (by decide), by rw [e]; exact h⟩
def MethW (C : Addr) (m : Str) (sp : Sp) (dvs : List V) (E : XK) (t : TA) (σ : St) (x : V) (H1 : Hp) (Q : VK) : Prop := ∃ a dx fs, x = .ref a ∧ H1 a = some (.ins C dx fs) ∧ fs.lookup m = none ∧ t σ H1 fun vs H2 => sp (x :: (vs ++ dvs)) H2 Q E
theorem go_meth (h : ta σ H fun x H1 => MethW C m sp dvs E t σ x H1 Q) : tMeth C m sp dvs E ta t σ H Q := h
theorem go_methW (hp : H a = some (.ins C dx fs)) (l : fs.lookup m = none) (h : t σ H fun vs H2 => sp (.ref a :: (vs ++ dvs)) H2 Q E) : MethW C m sp dvs E t σ (.ref a) H Q := ⟨a, dx, fs, rfl, hp, l, h⟩
def MakeW (C : Addr) (sp : Sp) (dvs : List V) (E : XK) (vs : List V) (H1 : Hp) (Q : VK) : Prop := ∀ x dx, H1 x = none → H1 dx = none → dx ≠ x → sp (.ref x :: (vs ++ dvs)) (upd (upd H1 dx (.own x)) x (.ins C dx [])) (fun v H2 => v = .non ∧ Q (.ref x) H2) E
theorem go_make (h : t σ H fun vs H1 => MakeW C sp dvs E vs H1 Q) : tMake C sp dvs E t σ H Q := h
/-- o.f op= e -/
def AFldW (K : PySem.W.Frag) (f : Str) (tv : TE) (rd : V → V → Hp → VK → Prop) (D : Ends) (σ : St) (x : V) (H1 : Hp) : Prop := ∃ a C dx fs v, x = .ref a ∧ H1 a = some (.ins C dx fs) ∧ Cls K C ∧ NoAttr K C f ∧ fs.lookup f = some v ∧ tv σ H1 fun y H2 => rd v y H2 fun z H3 => ∃ dx' fs', H3 a = some (.ins C dx' fs') ∧ fs'.length < 1000 ∧ D.nx σ (upd H3 a (.ins C dx' (putF f z fs')))
end
section
variable {a b c d e g h' : V} {R2' : V → V → Hp → VK → XK → Prop} {H : Hp} {Q : VK} {E : XK}
/-! ### a method's promise: self, then the rest -/
theorem go_ms1 {R} (h : R a H Q E) : Sp1 R (a :: ([] ++ [])) H Q E := ⟨a, rfl, h⟩
theorem go_ms2 {R} (h : R a b H Q E) : Sp2 R (a :: ([b] ++ [])) H Q E := ⟨a, b, rfl, h⟩
theorem go_ms3 {R} (h : R a b c H Q E) : Sp3 R (a :: ([b, c] ++ [])) H Q E := ⟨a, b, c, rfl, h⟩
theorem go_ms4 {R} (h : R a b c d H Q E) : Sp4 R (a :: ([b, c, d] ++ [])) H Q E := ⟨a, b, c, d, rfl, h⟩
theorem go_ms5 {R} (h : R a b c d e H Q E) : Sp5 R (a :: ([b, c, d, e] ++ [])) H Q E := ⟨a, b, c, d, e, rfl, h⟩
end
end L2.A

namespace L2.A
open PySem PySem.Spec PyProof.Rows
section
variable {K : PySem.W.Frag} {σ : St} {H : Hp} {D : Ends} {Q : VK} {ta tv : TE} {f : Str} {a C dx : Addr} {fs fs' : List (Str × V)} {v z : V} {rd : V → V → Hp → VK → Prop}
def AStW (C : Addr) (f : Str) (a : Addr) (D : Ends) (σ : St) (z : V) (H3 : Hp) : Prop := ∃ dx' fs', H3 a = some (.ins C dx' fs') ∧ fs'.length < 1000 ∧ D.nx σ (upd H3 a (.ins C dx' (putF f z fs')))
theorem go_faug (h : ta σ H fun x H1 => AFldW K f tv rd D σ x H1) : sFldAug K ta tv rd f D σ H := h
theorem go_faugW (hp : H a = some (.ins C dx fs)) (c : Cls K C) (n : NoAttr K C f) (l : fs.lookup f = some v) (h : tv σ H fun y H2 => rd v y H2 fun z H3 => AStW C f a D σ z H3) : AFldW K f tv rd D σ (.ref a) H := ⟨a, C, dx, fs, v, rfl, hp, c, n, l, h⟩
theorem go_astW (hp : H a = some (.ins C dx fs)) (s : Nat.ble fs.length 900 = true) (e : putF f z fs = fs') (h : D.nx σ (upd H a (.ins C dx fs'))) : AStW C f a D σ z H := ⟨dx, fs, hp, Nat.lt_of_le_of_lt (Nat.le_of_ble_eq_true s) (by decide), by rw [e]; exact h⟩
theorem go_rAdd {i j : Int} (h : Q (.int (i + j)) H) : rAdd (.int i) (.int j) H Q := ⟨i, j, rfl, rfl, h⟩
theorem go_rSub {i j : Int} (h : Q (.int (i - j)) H) : rSub (.int i) (.int j) H Q := ⟨i, j, rfl, rfl, h⟩
end
end L2.A

namespace L2.A
open PySem PySem.Spec PyProof.Rows
section
variable {X : Cx} {K : PySem.W.Frag} {σ : St} {H : Hp} {f : Str} {o : Expr} {ta : TE} {pos : Pos} {v : V} {QS : St → Hp → Prop} {a C dx : Addr} {fs fs' : List (Str × V)}
/-- o.f as a target -/
def GFldW (K : PySem.W.Frag) (f : Str) (v : V) (σ : St) (x : V) (H1 : Hp) (QS : St → Hp → Prop) : Prop := ∃ a C dx fs, x = .ref a ∧ H1 a = some (.ins C dx fs) ∧ Cls K C ∧ NoAttr K C f ∧ fs.length < 1000 ∧ QS σ (upd H1 a (.ins C dx (putF f v fs)))
def gFld (K : PySem.W.Frag) (ta : TE) (f : Str) : TG := fun v σ H QS => ta σ H fun x H1 => GFldW K f v σ x H1 QS
theorem pg_fld (ho : PE X o ta) : PG X (.Attribute o f pos) (gFld X.K ta f) := by
  refine ⟨fun pins s σ H v u Q I r h => ?_⟩
  rw [assign_Attribute]
  refine wpAny_bind (wpAny_holding (thn (ho.run pins s σ H _ I h) fun ov s1 ⟨x, H1, I1, r1, a, C, dx, fs, ex, ea, c, n, l, q⟩ => ?_))
  subst ex
  obtain rfl : ov = Value.ref a := r1
  refine wpAny_bind (wpAny_standAt ?_)
  refine wpAny_bind (wpAny_holding (setattr_ok I1 ea c n l r fun s2 I2 => ?_))
  exact wpAny_release ⟨σ, _, I2, q⟩
theorem go_gfld (h : ta σ H fun x H1 => GFldW K f v σ x H1 QS) : gFld K ta f v σ H QS := h
theorem go_gfldW (hp : H a = some (.ins C dx fs)) (c : Cls K C) (n : NoAttr K C f) (z : Nat.ble fs.length 900 = true) (e : putF f v fs = fs') (h : QS σ (upd H a (.ins C dx fs'))) : GFldW K f v σ (.ref a) H QS :=
  ⟨a, C, dx, fs, rfl, hp, c, n, Nat.lt_of_le_of_lt (Nat.le_of_ble_eq_true z) (by decide), by rw [e]; exact h⟩
end
end L2.A

namespace L2.A
open PySem PySem.Spec PyProof.Rows
/-- an instance or a dict: what may change -/
def isMut : HO → Prop
  | .ins _ _ _ => True
  | .dK _ => True
  | .lst _ => True
  | _ => False
theorem seqT_kp {K : PySem.W.Frag} {fp : Addr → Prop} {H H' : Hp} {q : Addr} {xs : List V} (h : SqT K H q xs) (k : Kp fp H H') (hn : ∀ a o, H a = some o → fp a → isMut o) : SqT K H' q xs := by
  rcases h with (h | ⟨o, h⟩) | h
  · exact .inl (.inl (k _ _ h fun f => (hn _ _ h f).elim))
  · exact .inl (.inr ⟨o, k _ _ h fun f => (hn _ _ h f).elim⟩)
  · exact .inr h
theorem Kp.imp {fp fp' : Addr → Prop} {H H' : Hp} (k : Kp fp H H') (h : ∀ a, fp a → fp' a) : Kp fp' H H' := fun a o e n => k a o e fun f => n (h a f)
end L2.A

namespace L2.A
open PySem PySem.Spec PyProof.Rows
section
variable {σ : St} {H : Hp} {Q : VK} {td ty tx : TE} {a : Addr} {kvs : List (Key × V)} {z : V} {s : Str}
/-! ### d.get(k, x) -/
def Dg2W (ty tx : TE) (σ : St) (x : V) (H1 : Hp) (Q : VK) : Prop := ∃ a, x = .ref a ∧ IsD H1 a ∧ ty σ H1 fun y H2 => tx σ H2 fun z H3 => ∃ o, DGet H3 a y o ∧ Q (o.getD z) H3
def Dg2K (a : Addr) (y z : V) (H3 : Hp) (Q : VK) : Prop := ∃ o, DGet H3 a y o ∧ Q (o.getD z) H3
theorem go_dget2 (h : td σ H fun x H1 => Dg2W ty tx σ x H1 Q) : tDGet2 td ty tx σ H Q := h
theorem go_dg2W (hp : IsD H a) (h : ty σ H fun y H2 => tx σ H2 fun z H3 => Dg2K a y z H3 Q) : Dg2W ty tx σ (.ref a) H Q := ⟨a, rfl, hp, h⟩
theorem go_dg2S (hp : H a = some (.dK kvs)) (h : Q ((valV kvs (Sum.inr s)).getD z) H) : Dg2K a (.str s) z H Q := ⟨_, DGet.k (k := Sum.inr s) hp, h⟩
end
end L2.A

namespace L2.A
open PySem PySem.Spec PyProof.Rows
theorem pe_fldK {X : Cx} {K : PySem.W.Frag} {e : Expr} {f : Str} {pos : Pos} {ta : TE} (hK : X.K = K) (he : PE X e ta) (hb : attributeBase e f X.env (eval e X.env) = eval e X.env) : PE X (.Attribute e f pos) (tFld K ta f) := hK ▸ pe_fld he hb
end L2.A

namespace L2.A
open PySem PySem.Spec PyProof.Rows
theorem go_dnewK {σ : St} {H : Hp} {Q : VK} (h : NewO (.dK []) H Q) : tDNewK σ H Q := h
end L2.A


namespace L2.A
open PySem PySem.Spec PyProof.Rows
/-! ### calls that may raise: what is raised is wished for at the caller's slots -/
section
variable {X : Cx} {CX : CXT} {k : Nat} {ps : List Str} {dvs : List V} {sp : Sp} {E : St → XK} {x m : Str} {p apos pos : Pos} {o e : Expr} {es : List Expr} {t : TA} {ta : TE} {C : Addr}
def tMethS (C : Addr) (m : Str) (sp : Sp) (dvs : List V) (E : St → XK) (ta : TE) (t : TA) : TE := fun σ H Q => ta σ H fun x H1 => ∃ a dx fs, x = .ref a ∧ H1 a = some (.ins C dx fs) ∧ fs.lookup m = none ∧
  t σ H1 fun vs H2 => sp (x :: (vs ++ dvs)) H2 Q (E σ)
theorem pe_dS (D : Dn X.prog X.w X.K X.mg X.base CX k x ps dvs sp) (hr : Room k X.A) (hg : Gl X x) (hx : ∀ σ, PassesAt CX X σ (E σ)) (ha : PA X (e :: es) t) (hdb : (x == ("__debug__" : Str)) = false := by decide)
    (he : starEach (e :: es) X.env = (false, eval e X.env) :: starEach es X.env := by rfl) (hpl : (backTo pos (starEach es X.env)).any (·.1) = false := by rfl) : PE X (.Call (.Name x p) (e :: es) [] pos) (tCallSD sp dvs E t) := by
  obtain ⟨f, fd, ds, F, hm, hk, hb, hv⟩ := D.ex
  exact pe_callSD F hr hg hm hk hb hv hx ha hdb he hpl
theorem pe_mthS {pl : Sem Bool} (D : MtD X.prog X.w X.K X.mg X.base CX k C m ps dvs sp) (hr : Room k X.A) (hx : ∀ σ, PassesAt CX X σ (E σ)) (he : PE X o ta) (ha : PA X (e :: es) t)
    (hst : starEach (e :: es) X.env = (false, eval e X.env) :: starEach es X.env := by rfl) (hpl : (backTo pos (starEach es X.env)).any (·.1) = false := by rfl)
    (ht : eval (.Call (.Attribute o m apos) (e :: es) [] pos) X.env = (do
      let ov ← eval o X.env
      standAt apos.atName
      let (f, first) ← holding [ov] (getMethod ov m pl)
      callWith pos f first (backTo pos (starEach (e :: es) X.env)) (backToKw pos (keywordEach [] X.env))) := by rfl) : PE X (.Call (.Attribute o m apos) (e :: es) [] pos) (tMethS C m sp dvs E ta t) := by
  obtain ⟨f, fd, ds, F, hm, c, hb, hd⟩ := D.ex
  refine ⟨fun pins s σ H Q I h => ?_⟩
  refine PySem.W.methodCall_KW (pl := pl) (thn (he.run pins s σ H _ I h) fun u s1 ⟨x, H1, I1, rx, a, dx, fs, ex, ea, l, q⟩ => ?_) ht
  subst ex
  obtain rfl : u = Value.ref a := rx
  refine getmeth_ok I1 ea c hm l ?_
  refine PySem.W.callWith_K (first := [.ref a]) (h₀ := X.base) I.ok.mod.kin hm.kp (thn (ha.run pos pins s1 σ H1 _ I1 q) fun us s2 ⟨vs, H2, I2, r, q2⟩ => ⟨I2.kIn, ?_⟩) hst hpl
  exact run_fnSD (us := .ref a :: us) (vs := .ref a :: vs) F hr hb hd (hx σ) I2 (.cons rfl r) q2
end
section
variable {K : PySem.W.Frag} {σ : St} {H : Hp} {Q : VK} {E : St → XK} {sp : Sp} {dvs : List V} {t : TA} {ta : TE} {C a dx : Addr} {m : Str} {fs : List (Str × V)}
theorem go_callS (h : t σ H fun vs H1 => sp (vs ++ dvs) H1 Q (E σ)) : tCallSD sp dvs E t σ H Q := h
def MethSW (C : Addr) (m : Str) (sp : Sp) (dvs : List V) (E : XK) (t : TA) (σ : St) (x : V) (H1 : Hp) (Q : VK) : Prop := ∃ a dx fs, x = .ref a ∧ H1 a = some (.ins C dx fs) ∧ fs.lookup m = none ∧ t σ H1 fun vs H2 => sp (x :: (vs ++ dvs)) H2 Q E
theorem go_methS (h : ta σ H fun x H1 => MethSW C m sp dvs (E σ) t σ x H1 Q) : tMethS C m sp dvs E ta t σ H Q := h
theorem go_methSW {E : XK} (hp : H a = some (.ins C dx fs)) (l : fs.lookup m = none) (h : t σ H fun vs H2 => sp (.ref a :: (vs ++ dvs)) H2 Q E) : MethSW C m sp dvs E t σ (.ref a) H Q := ⟨a, dx, fs, rfl, hp, l, h⟩
end
/-! ### an own exception class with its own __init__ -/
structure XkD (P : Program) (w : World) (K : PySem.W.Frag) (mg : Str → Option Value) (base : Heap) (k : Nat) (C : Addr) (x : Str) (ps : List Str) (dvs : List V) (sp : Sp) : Prop where
  ex : ∃ (fI : Addr) (fd : FuncData) (ds : List Value), FnOk P w K mg base CX0 k fI fd ps sp ∧ OexC K C ∧ PySem.W.findIn K (.ref C) "__init__" = some (some (.ref fI)) ∧ PySem.W.typeIn K (.ref fI) = some (.type "function") ∧ mg x = some (.ref C) ∧ Binds K fd ps ds ∧ Vals dvs ds
section
variable {X : Cx} {k : Nat} {ps : List Str} {dvs : List V} {sp : Sp} {x : Str} {p pos : Pos} {e : Expr} {es : List Expr} {ta : TA} {C : Addr}
theorem pmk_x (D : XkD X.prog X.w X.K X.mg X.base k C x ps dvs sp) (hr : Room (k + 1) X.A) (hg : Gl X x) (ha : PA X (e :: es) ta) (hdb : (x == ("__debug__" : Str)) = false := by decide)
    (he : starEach (e :: es) X.env = (false, eval e X.env) :: starEach es X.env := by rfl) (hpl : (backTo pos (starEach es X.env)).any (·.1) = false := by rfl) : PMk X (.Call (.Name x p) (e :: es) [] pos) (tMkO C sp dvs ta) := by
  obtain ⟨fI, fd, ds, F, T, iC, tI, hm, hb, hv⟩ := D.ex
  exact pmk_oex T iC tI F hr hb hv pass0 hg hm ha hdb he hpl
end
/-- the __init__ of an exception class: it leaves the fields fs -/
def IniW (C : Addr) (fs : List (Str × V)) (a0 : V) (H : Hp) (Q : VK) : Prop := ∃ a, a0 = .ref a ∧ OexA C a H ∧ ∀ d H', H d = none → Kp (fun x => x = a) H H' → H' a = some (exo a C (some d)) → H' d = some (exd d fs) → Q .non H'
where OexA (C a : Addr) (H : Hp) : Prop := H a = some (exo a C none)
section
variable {K : PySem.W.Frag} {σ : St} {H : Hp} {D : Ends} {Q : VK} {t : TA} {ta te to : TE} {C a dx : Addr} {f : Str} {fs : List (Str × V)} {y : V}
def VeIW (K : PySem.W.Frag) (vs : List V) (H1 : Hp) (Q : VK) : Prop := ∃ (a C : Addr) (ws : List V), vs = .ref a :: ws ∧ ws.length ≤ 1000 ∧ OexC K C ∧ H1 a = some (exo a C none) ∧ Q .non H1
theorem go_veI (h : t σ H fun vs H1 => VeIW K vs H1 Q) : tVeI K t σ H Q := h
theorem go_veIW {ws : List V} (T : OexC K C) (ha : H a = some (exo a C none)) (z : Nat.ble ws.length 1000 = true) (h : Q .non H) : VeIW K (.ref a :: ws) H Q := ⟨a, C, ws, rfl, Nat.le_of_ble_eq_true z, T, ha, h⟩
def OstW (K : PySem.W.Frag) (f : Str) (y : V) (D : Ends) (σ : St) (x : V) (H2 : Hp) : Prop := ∃ a C : Addr, x = .ref a ∧ OexC K C ∧ PySem.W.findIn K (.ref C) f = some none ∧
  ((H2 a = some (exo a C none) ∧ ∀ dx, H2 dx = none → dx ≠ a → D.nx σ (upd (upd H2 dx (exd dx [(f, y)])) a (exo a C (some dx)))) ∨
    ∃ (dx : Addr) (fs : List (Str × V)), H2 a = some (exo a C (some dx)) ∧ H2 dx = some (exd dx fs) ∧ fs.length ≤ 900 ∧ D.nx σ (upd H2 dx (exd dx ((f, y) :: fs))))
theorem go_ost (h : te σ H fun y H1 => to σ H1 fun x H2 => OstW K f y D σ x H2) : tOst K f to te D σ H := h
theorem go_ost1 (T : OexC K C) (n : PySem.W.findIn K (.ref C) f = some none) (ha : H a = some (exo a C none))
    (h : ∀ d H', H d = none → Kp (fun x => x = a) H H' → H' a = some (exo a C (some d)) → H' d = some (exd d [(f, y)]) → D.nx σ H') : OstW K f y D σ (.ref a) H :=
  ⟨a, C, rfl, T, n, .inl ⟨ha, fun d hd ne => h d _ hd (fun b o e n => by rw [upd_ne n, upd_ne (ne_of_none e hd)]; exact e) upd_same (by rw [upd_ne ne]; exact upd_same)⟩⟩
theorem go_ost2 (T : OexC K C) (n : PySem.W.findIn K (.ref C) f = some none) (ha : H a = some (exo a C (some dx))) (hd : H dx = some (exd dx fs)) (z : Nat.ble fs.length 900 = true)
    (h : ∀ H', (∀ b o, H b = some o → b ≠ dx → H' b = some o) → H' a = some (exo a C (some dx)) → H' dx = some (exd dx ((f, y) :: fs)) → D.nx σ H') : OstW K f y D σ (.ref a) H := by
  refine ⟨a, C, rfl, T, n, .inr ⟨dx, fs, ha, hd, Nat.le_of_ble_eq_true z, h _ (fun b o e n => by rw [upd_ne n]; exact e) ?_ upd_same⟩⟩
  by_cases e : a = dx
  · subst e
    rw [ha] at hd
    have z := Option.some.inj hd
    unfold exo exd at z
    have z2 := HO.ext.inj z
    have z3 : (fun h : Heap => ∃ t1 : Addr, h.get? a = some ({ cls := .ref C, dict := some a, data := .fields #[.ref t1, .none, .none, .none, .bool false, .none] } : Obj)) = fun h => ∃ mA, h.Ns1 a mA ∧ ∀ f, RelO (fs.lookup f) (mA f) := z2
    rw [upd_same]
    unfold exo exd
    exfalso
    have hp : ∃ h : Heap, ∃ t1 : Addr, h.get? a = some ({ cls := .ref C, dict := some a, data := .fields #[.ref t1, .none, .none, .none, .bool false, .none] } : Obj) := ⟨⟨Array.replicate (a + 1) { cls := .ref C, dict := some a, data := .fields #[.ref 0, .none, .none, .none, .bool false, .none] }, {}⟩, 0, by simp [Heap.get?]⟩
    obtain ⟨h, t1, e1⟩ := hp
    have q : ∃ mA, h.Ns1 a mA ∧ ∀ f, RelO (fs.lookup f) (mA f) := by
      have q := congrFun z3 h
      exact q ▸ ⟨t1, e1⟩
    obtain ⟨mA, ⟨o, es, ep, e2, e3, _⟩, _⟩ := q
    rw [e1] at e2
    have e4 := Option.some.inj e2
    subst e4
    cases e3
  · rw [upd_ne e]; exact ha
end
def MkOW (C : Addr) (sp : Sp) (dvs vs : List V) (H1 : Hp) (Q : XK) : Prop := vs.length ≤ 1000 ∧ ∀ a, H1 a = none → sp (.ref a :: (vs ++ dvs)) (upd H1 a (exo a C none))
  (fun v H2 => v = .non ∧ ∃ (d : Addr) (fs : List (Str × V)), H2 a = some (exo a C (some d)) ∧ H2 d = some (exd d fs) ∧ H1 d = none ∧ Q (.ref C) (some d) (upd (del H2 a) d (.xd fs))) (fun _ _ _ => False)
theorem go_mkO {C : Addr} {sp : Sp} {dvs : List V} {t : TA} {σ : St} {H : Hp} {Q : XK} (h : t σ H fun vs H1 => MkOW C sp dvs vs H1 Q) : tMkO C sp dvs t σ H Q := h
theorem go_mkOW {C : Addr} {sp : Sp} {dvs vs : List V} {H1 : Hp} {Q : XK} (fs : List (Str × V)) (z : Nat.ble vs.length 1000 = true)
    (hsp : ∀ a H Q, IniW C fs (.ref a) H Q → sp (.ref a :: (vs ++ dvs)) H Q (fun _ _ _ => False))
    (h : ∀ d H', H1 d = none → Same H1 H' → H' d = some (.xd fs) → Q (.ref C) (some d) H') : MkOW C sp dvs vs H1 Q := by
  refine ⟨Nat.le_of_ble_eq_true z, fun a ha => hsp a _ _ ⟨a, rfl, upd_same, fun d H' hd k ea ed => ⟨rfl, d, fs, ea, ed, upd_free hd, ?_⟩⟩⟩
  refine h d _ (upd_free hd) (fun b o e => ?_) upd_same
  have nb : b ≠ a := ne_of_none e ha
  rw [upd_ne (ne_of_none e (upd_free hd)), del_ne nb]
  exact k b o (by rw [upd_ne nb]; exact e) nb
/-! ### isinstance of a caught exception -/
structure ExcD (K : PySem.W.Frag) (D : Addr) : Prop where
  cl : (PySem.W.clsIn K D).isSome = true
  hg : PySem.W.findIn K (.ref D) "__getattribute__" = some (some (.builtin "BaseException.__getattribute__"))
  hk : PySem.W.findIn K (.ref D) "__getattr__" = some none
  hs : PySem.W.subIn K (.ref D) (.type "BaseException") = some true
  ha : PySem.W.findIn K (.ref D) "__class__" = some (some (.builtin "object.__class__"))
  hn : PySem.W.specialIn K (.builtin "object.__class__") "__get__" = some (some (.builtin "getset_descriptor.__get__"))
  ht : PySem.W.takesIn K (.builtin "object.__class__") = some true
  hm : PySem.W.mroIn K D (.type "object") = some true
  hd : PySem.W.hasDictIn K D = true
def excDB (K : PySem.W.Frag) (D : Addr) : Bool := (PySem.W.clsIn K D).isSome && (decide (PySem.W.findIn K (.ref D) "__getattribute__" = some (some (.builtin "BaseException.__getattribute__"))) && (decide (PySem.W.findIn K (.ref D) "__getattr__" = some none) && (decide (PySem.W.subIn K (.ref D) (.type "BaseException") = some true) &&
  (decide (PySem.W.findIn K (.ref D) "__class__" = some (some (.builtin "object.__class__"))) && (decide (PySem.W.specialIn K (.builtin "object.__class__") "__get__" = some (some (.builtin "getset_descriptor.__get__"))) && (decide (PySem.W.takesIn K (.builtin "object.__class__") = some true) && (decide (PySem.W.mroIn K D (.type "object") = some true) && PySem.W.hasDictIn K D)))))))
theorem excDB_ok {K : PySem.W.Frag} {D : Addr} (h : excDB K D = true) : ExcD K D := by
  unfold excDB at h
  simp only [Bool.and_eq_true] at h
  obtain ⟨h0, h1, h2, h3, h4, h5, h6, h7, h8⟩ := h
  exact ⟨h0, of_decide_eq_true h1, of_decide_eq_true h2, of_decide_eq_true h3, of_decide_eq_true h4, of_decide_eq_true h5, of_decide_eq_true h6, of_decide_eq_true h7, h8⟩
theorem ExcD.xf {K : PySem.W.Frag} {D : Addr} (h : ExcD K D) : XfC K D := ⟨h.hg, h.hk, h.hs, h.hd⟩
def rIsEX (K : PySem.W.Frag) (a : Addr) (cls : Value) (d : Option Addr) : List V → Hp → VK → Prop := fun xs H Q => ∃ (D dd : Addr) (fs : List (Str × V)), cls = .ref D ∧ d = some dd ∧ ExcD K D ∧ H dd = some (.xd fs) ∧
  ((∃ (c : V) (u : Value) (b : Bool), xs = [.ref a, c] ∧ ClsV c u ∧ PySem.W.kitOne K cls u = some b ∧ Q (.bl b) H) ∨
    ∃ (tp : Addr) (cs : List V) (us : List Value) (b : Bool), xs = [.ref a, .ref tp] ∧ H tp = some (.tup cs) ∧ Paired ClsV cs us ∧ PySem.W.kitAny K cls us = some b ∧ Q (.bl b) H)
theorem call_isEX {X : Cx} {a : Addr} {cls : Value} {d : Option Addr} {oe : Obj} {pn : List (Addr × Obj)} (hz : Zc cls d oe) (hf : ∃ vs, oe.data = .fields vs) : CallR (X.suite a ((a, oe) :: pn)) (.builtin "isinstance") (rIsEX X.K a cls d) := by
  intro pins s σ H xs us Q I r h
  obtain ⟨D, dd, fs, rfl, rfl, C, ed, h⟩ := h
  obtain ⟨hget, _⟩ := I.pin (a, oe) (List.mem_append.mpr (.inl List.mem_cons_self))
  obtain ⟨vs, hv⟩ := hf
  have hx : ObjOk X.prog X.w H s.heap dd (.xd fs) := I.hok dd _ ed
  obtain ⟨mA, hns, hr⟩ := hx
  obtain ⟨od, ho, hl⟩ := lookIn_ns hns
  have J : PySem.W.InstAt s.heap a oe D (some od) := ⟨hget, hz.1, by unfold PySem.W.notCls; rw [hv] <;> rfl, by rw [hz.2]; exact ho⟩
  have Z := PySem.W.kitx_exc (K := X.K) (x := a) (C := D) (ox := oe) (od := some od) C.cl C.hg C.hk C.hs C.ha C.hn C.ht C.hm
  rcases h with ⟨c, u, b, rfl, k, e, q⟩ | ⟨tp, cs, ws, b, rfl, hT, k, e, q⟩
  · obtain ⟨u1, u2, rfl, r1, r2⟩ := vals2 r
    cases (show u1 = Value.ref a from r1)
    have e2 := k.eq r2
    subst e2
    exact PySem.W.kia_one Z I.kIn J e (fun z => nomatch z) fun tk => ⟨.bl b, H, I.tok tk, rfl, q⟩
  · obtain ⟨u1, u2, rfl, r1, r2⟩ := vals2 r
    cases (show u1 = Value.ref a from r1)
    cases (show u2 = Value.ref tp from r2)
    obtain ⟨_, its, rv, o, h1, h2, n, h3⟩ := (show ObjOk X.prog X.w H s.heap tp (.tup cs) from I.hok tp _ hT)
    have e3 := ClsV.all k rv
    subst e3
    obtain ⟨oc, od2, dt, sl⟩ := o
    simp only at h2 h3
    subst h2 h3
    exact PySem.W.kia_tup Z I.kIn J h1 e (fun z => nomatch z) fun tk => ⟨.bl b, H, I.tok tk, rfl, q⟩
theorem call_isEK {X : Cx} {K : PySem.W.Frag} {a : Addr} {cls : Value} {d : Option Addr} {oe : Obj} {pn : List (Addr × Obj)} (hK : X.K = K) (hz : Zc cls d oe) (hf : ∃ vs, oe.data = .fields vs) : CallR (X.suite a ((a, oe) :: pn)) (.builtin "isinstance") (rIsEX K a cls d) := hK ▸ call_isEX hz hf
section
variable {K : PySem.W.Frag} {a D dd tp : Addr} {fs : List (Str × V)} {H : Hp} {Q : VK} {c : V} {cs : List V} {u : Value} {us : List Value} {b : Bool}
theorem go_isE1 (C : ExcD K D) (ed : H dd = some (.xd fs)) (k : ClsV c u) (e : PySem.W.kitOne K (.ref D) u = some b) (h : Q (.bl b) H) : rIsEX K a (.ref D) (some dd) [.ref a, c] H Q := ⟨D, dd, fs, rfl, rfl, C, ed, .inl ⟨c, u, b, rfl, k, e, h⟩⟩
theorem go_isET (C : ExcD K D) (ed : H dd = some (.xd fs)) (hT : H tp = some (.tup cs)) (k : Paired ClsV cs us) (e : PySem.W.kitAny K (.ref D) us = some b) (h : Q (.bl b) H) : rIsEX K a (.ref D) (some dd) [.ref a, .ref tp] H Q := ⟨D, dd, fs, rfl, rfl, C, ed, .inr ⟨tp, cs, us, b, rfl, hT, k, e, h⟩⟩
/-! ### err.f -/
def XfW (a : Addr) (cls : Value) (d : Option Addr) (C : Addr) (f : Str) (x : V) (H1 : Hp) (Q : VK) : Prop := x = .ref a ∧ cls = .ref C ∧ ∃ (dd : Addr) (fs : List (Str × V)) (v : V), d = some dd ∧ H1 dd = some (.xd fs) ∧ fs.lookup f = some v ∧ Q v H1
theorem go_xf {cls : Value} {d : Option Addr} {C : Addr} {f : Str} {te : TE} {σ : St} (h : te σ H fun x H1 => XfW a cls d C f x H1 Q) : tXf a cls d C f te σ H Q := h
theorem go_xfW {f : Str} {v : V} (ed : H dd = some (.xd fs)) (l : fs.lookup f = some v) (h : Q v H) : XfW a (.ref D) (some dd) D f (.ref a) H Q := ⟨rfl, rfl, dd, fs, v, rfl, ed, l, h⟩
/-! ### try -/
def CatchW (K : PySem.W.Frag) (c : Value) (ts : Addr → Value → Option Addr → St → Hp → Prop) (out : Value → Option Addr → St → Hp → Prop) : WX := fun cls d σ H => ∃ b, PySem.W.exmOne K cls c = some b ∧ (b = true → ∀ a, H a = none → ts a cls d σ H) ∧ (b = false → out cls d σ H)
theorem go_caught {cls c : Value} {d : Option Addr} {i : Nat} {ts : Addr → Value → Option Addr → TS} {Wout : WX} {Dd : Ends} {σ : St} (e : PySem.W.exmOne K cls c = some true)
    (h : ∀ a, H a = none → ts a cls d { nx := fun σ' H' => Dd.nx (σ'.set i none) H', rt := Dd.rt, bk := fun σ' H' => Dd.bk (σ'.set i none) H', ct := fun σ' H' => Dd.ct (σ'.set i none) H' } (σ.set i (some (.ref a))) H) : WE (wAs K c i ts Wout Dd) σ cls d H :=
  ⟨true, e, fun _ => h, fun z => by cases z⟩
theorem go_caught1 {cls c : Value} {d : Option Addr} {ts : Addr → Value → Option Addr → TS} {Wout : WX} {Dd : Ends} {σ : St} (e : PySem.W.exmOne K cls c = some true) (h : ∀ a, H a = none → ts a cls d Dd σ H) : WE (wOnly K c ts Wout Dd) σ cls d H :=
  ⟨true, e, fun _ => h, fun z => by cases z⟩
theorem go_passed {cls c : Value} {d : Option Addr} {i : Nat} {ts : Addr → Value → Option Addr → TS} {Wout : WX} {Dd : Ends} {σ : St} (e : PySem.W.exmOne K cls c = some false) (h : Wout cls d σ H) : WE (wAs K c i ts Wout Dd) σ cls d H :=
  ⟨false, e, (fun z => by cases z), fun _ => h⟩
end
end L2.A

namespace L2.A
open PySem PySem.Spec PyProof.Rows
/-! ### err.f of whatever class -/
def tXfG (K : PySem.W.Frag) (a : Addr) (cls : Value) (d : Option Addr) (f : Str) (te : TE) : TE := fun σ H Q => te σ H fun x H1 => x = .ref a ∧ ∃ (C dd : Addr) (fs : List (Str × V)) (v : V), cls = .ref C ∧ XfC K C ∧ PySem.W.findIn K (.ref C) f = some none ∧ d = some dd ∧ H1 dd = some (.xd fs) ∧ fs.lookup f = some v ∧ Q v H1
theorem pe_xfG {X : Cx} {K : PySem.W.Frag} {a : Addr} {oe : Obj} {cls : Value} {d : Option Addr} {pn : List (Addr × Obj)} {e : Expr} {te : TE} {pos : Pos} {n : Str} (hK : X.K = K)
    (hz : Zc cls d oe) (hf : ∃ vs, oe.data = .fields vs) (he : PE (X.suite a ((a, oe) :: pn)) e te) (hb : attributeBase e n X.env (eval e X.env) = eval e X.env := by rfl) :
    PE (X.suite a ((a, oe) :: pn)) (.Attribute e n pos) (tXfG K a cls d n te) := by
  subst hK
  refine ⟨fun pins s σ H Q I h => ?_⟩
  refine attr_of hb (thn (he.run pins s σ H _ I h) fun u s1 hh => ?_)
  obtain ⟨x, H1, I1, rx, ex, C, dd, fs, v, ec, T, hno, ed, ea, l, q⟩ := hh
  subst ex
  obtain rfl : u = Value.ref a := rx
  subst ec
  subst ed
  obtain ⟨ha, _⟩ := I1.pin (a, oe) (List.mem_append_left _ List.mem_cons_self)
  obtain ⟨vs, hd⟩ := hf
  have hx : ObjOk X.prog X.w H1 s1.heap dd (.xd fs) := I1.hok dd _ ea
  obtain ⟨mA, hns, hr⟩ := hx
  obtain ⟨od, ho, hl⟩ := lookIn_ns hns
  obtain ⟨u, hu, ru⟩ := RelO.some_of (v := v) (o := mA n) (by rw [← l]; exact hr n)
  have J : PySem.W.InstAt s1.heap a oe C (some od) := ⟨ha, hz.1, by unfold PySem.W.notCls; rw [hd] <;> rfl, by rw [hz.2]; exact ho⟩
  exact HandSPX.exc_get I1.kIn J T.ga T.gg T.exC (PySem.W.findObj_own T.hdC hno rfl (by rw [hl, hu])) (handed_of ru) ⟨v, H1, I1.tok _, ru, q⟩
section
variable {K : PySem.W.Frag} {a D dd : Addr} {fs : List (Str × V)} {H : Hp} {Q : VK}
def XfGW (K : PySem.W.Frag) (a : Addr) (cls : Value) (d : Option Addr) (f : Str) (x : V) (H1 : Hp) (Q : VK) : Prop := x = .ref a ∧ ∃ (C dd : Addr) (fs : List (Str × V)) (v : V), cls = .ref C ∧ XfC K C ∧ PySem.W.findIn K (.ref C) f = some none ∧ d = some dd ∧ H1 dd = some (.xd fs) ∧ fs.lookup f = some v ∧ Q v H1
theorem go_xfG {cls : Value} {d : Option Addr} {f : Str} {te : TE} {σ : St} (h : te σ H fun x H1 => XfGW K a cls d f x H1 Q) : tXfG K a cls d f te σ H Q := h
theorem go_xfGW {f : Str} {v : V} (T : XfC K D) (n : PySem.W.findIn K (.ref D) f = some none) (ed : H dd = some (.xd fs)) (l : fs.lookup f = some v) (h : Q v H) : XfGW K a (.ref D) (some dd) f (.ref a) H Q := ⟨rfl, D, dd, fs, v, rfl, T, n, rfl, ed, l, h⟩
end
end L2.A

namespace L2.A
open PySem PySem.Spec PyProof.Rows
/-! ### a caught or made exception as an object that is tracked -/
def exq (a : Addr) (cls : Value) (d : Option Addr) : HO := .ext fun h => ∃ oe vs, h.get? a = some oe ∧ Zc cls d oe ∧ oe.data = .fields vs
theorem exq_ok {P : Program} {w : World} {H : Hp} {h : Heap} {a : Addr} {cls : Value} {d : Option Addr} {oe : Obj} {vs : Array Value} (he : h.get? a = some oe) (hz : Zc cls d oe) (hd : oe.data = .fields vs) : ObjOk P w H h a (exq a cls d) :=
  ⟨⟨oe, vs, he, hz, hd⟩, ⟨oe, he⟩, fun h1 h2 z k => by
    obtain ⟨oe, vs, e, z, q⟩ := z
    exact ⟨oe, vs, k _ e, z, q⟩⟩
theorem exq_at {P : Program} {w : World} {H : Hp} {h : Heap} {a : Addr} {cls : Value} {d : Option Addr} (hok : HOk P w H h) (he : H a = some (exq a cls d)) : ∃ oe vs, h.get? a = some oe ∧ Zc cls d oe ∧ oe.data = .fields vs := by
  have x : ObjOk P w H h a (.ext fun h => ∃ oe vs, h.get? a = some oe ∧ Zc cls d oe ∧ oe.data = .fields vs) := hok a _ he
  exact x.1
section
variable {X : Cx} {pins : List (Addr × Obj)} {σ : St} {H : Hp} {sI s s' : Shared} {B : Heap} {a : Addr} {cls : Value} {d : Option Addr} {oe : Obj} {vs : Array Value}
theorem Inv.landedX (I : Inv X pins σ H sI) (nb : ∀ b o, sI.heap.get? b = some o → b ∉ frs X.stack → B.get? b = some o) (st : B.StaysIn s'.heap) (up : sI.heap.UpToSlots s'.heap) (os : s'.os = sI.os) (ag : AllBare s'.gens)
    (hB : B.get? a = none) (nfr : a ∉ frs X.stack) (he : s'.heap.get? a = some oe) (hz : Zc cls d oe) (hd : oe.data = .fields vs) (na : H a = none) : Inv X pins σ (upd H a (exq a cls d)) s' := by
  have nf : ∀ b ∈ frs X.stack, ∀ o, sI.heap.get? b = some o → ∃ sl, s'.heap.get? b = some { o with slots := sl } := fun b hb o e => by
    obtain ⟨_, o', e', hd⟩ := I.stack.mem hb
    rw [e] at e'; cases e'
    exact up b o e hd
  have ne : ∀ b o, sI.heap.get? b = some o → b ≠ a := fun b o e z => by
    subst z
    have q := nb b o e nfr
    rw [hB] at q; cases q
  have hok0 : HOk X.prog X.w H s'.heap := (I.inGround nb).kept st
  have hok : HOk X.prog X.w (upd H a (exq a cls d)) s'.heap := fun b o q => by
    by_cases hb : b = a
    · subst hb
      rw [upd_same] at q
      cases q
      exact exq_ok he hz hd
    · rw [upd_ne hb] at q
      exact (hok0 b o q).stay (fun c u _ r => r) (fun c r => by rw [upd_ne (ne_of_none r na)]; exact r) fun c xs r => by rw [upd_ne (ne_of_none r na)]; exact r
  have J := I.call (ch := []) (h' := s'.heap) (g' := s'.gens) (t' := s'.toks) (d' := s'.drawn) (H' := upd H a (exq a cls d))
    ⟨fun b o e _ hb _ => st b o (nb b o e hb), fun b o e _ hb _ => nf b hb o e, fun b o e n _ => by rw [upd_ne (ne b o e)]; exact n, fun b o e _ => by
      by_cases hb : b ∈ frs X.stack
      · obtain ⟨sl, q⟩ := nf b hb o e
        exact ⟨_, q⟩
      · exact ⟨o, st b o (nb b o e hb)⟩, fun b xs e => by rw [upd_ne (ne_of_none e na)]; exact e, fun b _ _ e => by rw [upd_ne (ne_of_none e na)]; exact e, fun b ps e => ⟨#[], by rw [upd_ne (ne_of_none e na), e]; simp⟩⟩
    hok ag (fun _ z => nomatch z)
  obtain ⟨a1, a2, a3, a4, a5⟩ := s'
  have e5 : a5 = sI.os := os
  subst e5
  exact J
theorem Inv.suiteX (I : Inv X pins σ H s) (a : Addr) : Inv (X.suite a (X.pn ++ pins)) [] σ H s :=
  ⟨I.ok.suite _ _, I.os, I.bare, I.base, I.loc, I.cell, I.free, I.freeC, fun p hp => I.pin p (by rw [List.append_nil] at hp; exact hp), I.hok, I.len⟩
theorem Inv.unsuiteX {a : Addr} {pn' : List (Addr × Obj)} (I : Inv (X.suite a (X.pn ++ pins)) pn' σ H s) (ok : X.Ok) : Inv X pins σ H s :=
  ⟨ok, I.os, I.bare, I.base, I.loc, I.cell, I.free, I.freeC, fun p hp => I.pin p (List.mem_append_left _ hp), I.hok, I.len⟩
end
/-- what the clause wishes: n's slot holds the exception, which is tracked from then on -/
def wAsX (K : PySem.W.Frag) (c : Value) (i : Nat) (ts : Addr → Value → Option Addr → TS) (Wout : WX) (D : Ends) : WX := fun cls d σ H =>
  ∃ b, PySem.W.exmOne K cls c = some b ∧ (b = true → ∀ a, H a = none → ts a cls d { nx := fun σ' H' => D.nx (σ'.set i none) H', rt := D.rt, bk := fun σ' H' => D.bk (σ'.set i none) H', ct := fun σ' H' => D.ct (σ'.set i none) H' } (σ.set i (some (.ref a))) (upd H a (exq a cls d))) ∧
    (b = false → Wout cls d σ H)
section
variable {X : Cx} {x n : Str} {c : Value} {i : Nat} {body suite : List Stmt} {b₀ : Stmt} {np pos pos' : Pos} {tb : WX → TS} {ts : Addr → Value → Option Addr → TS} {Wout : WX}
theorem ps_try_asX (hs : X.stack = X.env :: X.outer) (hf : X.env.frame = some X.env.locals) (hN : X.N.Nodup) (hi : X.N[i]? = some n) (hln : X.env.kindOf n = some .local) (hc : Names X x c) (tk : Takes X Wout)
    (hb : ∀ (W : WX) (pn : List (Addr × Obj)) (xe : Value → Shared → Prop), Takes (X.tr pn xe) W → PassesOwn (model X.prog X.w) X.A X.env xe → PSs (X.tr pn xe) body (tb W))
    (hsu : ∀ (a : Addr) (cls : Value) (d : Option Addr) (pn : List (Addr × Obj)), PSs (X.suite a pn) (b₀ :: suite) (ts a cls d)) :
    PS X (.Try body [.ExceptHandler (some (.Name x np)) (some n) (b₀ :: suite) pos'] [] [] pos) (fun D σ H => tb (wAsX X.K c i ts Wout D) D σ H) := by
  refine ⟨fun pins s σ H D I h => ?_⟩
  have ok := I.ok
  have hfr : X.A.frames = some (X.env :: X.outer) := by rw [ok.frames, hs]
  have hloc : Loc X.env.scope n := .inl hln
  refine wpAny_Try_except ?_
  refine wpAny_mono ((hb (wAsX X.K c i ts Wout D) (X.pn ++ pins) (fun e s₁ => wpAny (model X.prog X.w) X.A (noteFrame e X.env) (fun _ s₂ => wpAny (model X.prog X.w) X.A (setFlight e none) (fun _ s₃ =>
    wpAny (model X.prog X.w) X.A (handleBy e X.env [.ExceptHandler (some (.Name x np)) (some n) (b₀ :: suite) pos']) (SP X pins D) X.xe s₃) X.xe s₂) X.xe s₁) (fun u s' xx => ?_) PassesOwn.looking).run [] s σ H D (I.toTry _) h) (fun f s1 hsp => ?_) (fun e s1 he => he)
  · -- the catch
    obtain ⟨a, B, sI, pins', σ', H', cls, d, rfl, J', nb, up, sky, na, os, ag, b, hb1, hyes, hno⟩ := xx
    have J : Inv X pins σ' H' sI := J'.ofTry ok
    have sky' : Sky B (X.env :: X.outer) a (Zc cls d) X.env.locals s'.heap := by rw [← hs]; exact sky
    show wpAny (model X.prog X.w) X.A (noteFrame (.ref a) X.env) _ _ _
    refine Sky.land Zc.steady hfr hf sky' fun h3 fl3 up3 => ?_
    have J3 : Inv X pins σ' H' { s' with heap := h3 } := J.landed nb fl3.1 (up.trans up3) os ag
    obtain ⟨oe3, vs3, he3, hz3, hd3⟩ := fl3.there
    have notFr : ∀ {h : Heap} {o : Obj} {vs : Array Value}, h.FunFrames B (X.env :: X.outer) → h.get? a = some o → o.data = .fields vs → a ∉ frs (X.env :: X.outer) := fun {h o vs} ff e dd hm => by
      obtain ⟨_, o', e', hnf⟩ := ff.mem hm
      rw [e] at e'; cases e'
      exact hnf _ dd
    have nfr := notFr fl3.2.2.1 he3 hd3
    have nfr' : a ∉ frs X.stack := by rw [hs]; exact nfr
    have nL : a ≠ X.env.locals := fun z => nfr (List.mem_filterMap.mpr ⟨X.env, List.mem_cons_self, by rw [hf, z]⟩)
    have nF : a ∉ X.fs := fun hm => by
      obtain ⟨e, he, q⟩ := List.mem_filterMap.mp hm
      exact nfr (List.mem_filterMap.mpr ⟨e, List.mem_cons_of_mem _ he, q⟩)
    have S3 := J3.suite he3 hd3 na nL nF
    refine wpAny_handleBy_cons (codeAny_handlers_test ?_) (by intro q; cases q)
    have LT : PySem.W.Looks (model X.prog X.w) h3 (typeOf (.ref a)) cls := fun A Q E s k q => wpAny_typeOf_ref (k _ _ he3) (by rw [hz3.1]; exact q)
    have LM := PySem.W.exm_one (M := model X.prog X.w) (J3.kIn) LT hb1
    have test : ∀ {Q : Value → Shared → Prop} {E : Value → Shared → Prop}, Q c { s' with heap := h3 } → wpAny (model X.prog X.w) (X.A.mark (some (.ref a))) (eval (.Name x np) X.env) Q E { s' with heap := h3 } := fun {Q E} q => by
      obtain ⟨hg, hdbg, hm | ⟨hm, hv, hnn⟩⟩ := hc
      · exact ld_glob (X := X.suite a ((a, oe3) :: (X.pn ++ pins))) S3 hg hm q hdbg
      · exact ld_blt (X := X.suite a ((a, oe3) :: (X.pn ++ pins))) S3 hg hm hv q hnn hdbg
    refine test (LM.here ?_)
    cases b with
    | true =>
      refine codeAny_handlers_suite_as ?_
      refine HandSPX.lands_againZ fl3 fun h4 fl4 up4 => ?_
      obtain ⟨oe4, vs4, he4, hz4, hd4⟩ := fl4.there
      have J4 : Inv X pins σ' (upd H' a (exq a cls d)) { s' with heap := h4 } := Inv.landedX J nb fl4.1 ((up.trans up3).trans up4) os ag fl4.2.1 nfr' he4 hz4 hd4 na
      have S4 := Inv.suiteX J4 a
      refine store_ok (X := X.suite a (X.pn ++ pins)) (v := .ref a) S4 hN hi hloc rfl (fun s5 S5 => ?_) (.inr hln)
      refine wpAny_mono ((hsu a cls d (X.pn ++ pins)).run [] s5 _ _ _ S5 (hyes rfl a na)) (fun f s6 hsp => ?_) (fun _ _ z => False.elim z)
      have end_ : ∀ {σ6 : St} {H6 : Hp} {Q : Shared → Prop}, Inv (X.suite a (X.pn ++ pins)) [] σ6 H6 s6 → (∀ s7, Inv X pins (σ6.set i none) H6 s7 → Q s7) →
          wpAny (model X.prog X.w) X.A (do bindName X.env n .none; unbindBehindTheSuite X.env n pos') (fun _ s7 => Q s7) X.xe s6 := fun {σ6 H6 Q} S6 hq => gone_ok (Inv.unsuiteX S6 ok) hN hi hln hq
      cases f with
      | next =>
        obtain ⟨σ6, H6, S6, q6⟩ := hsp
        exact end_ S6 fun s7 J7 => ⟨_, _, J7, q6⟩
      | brk =>
        obtain ⟨σ6, H6, S6, q6⟩ := hsp
        exact end_ S6 fun s7 J7 => ⟨_, _, J7, q6⟩
      | cont =>
        obtain ⟨σ6, H6, S6, q6⟩ := hsp
        exact end_ S6 fun s7 J7 => ⟨_, _, J7, q6⟩
      | ret u =>
        obtain ⟨v6, σ6, H6, S6, r6, q6⟩ := hsp
        exact end_ S6 fun s7 J7 => ⟨_, _, _, J7, r6, q6⟩
    | false =>
      show wpAny _ X.A (handleBy (.ref a) X.env []) _ _ _
      refine wpAny_handleBy_nil ?_
      obtain ⟨k1, k2, k3, oe, vs, T, oT, ts', he, hz, hd, h1, hr⟩ := id fl3
      unfold PySem.passOn
      refine wpAny_bind (wpAny_field he hd h1 ?_)
      rw [if_neg (show ¬ ((Value.ref T == Value.none) = true) from by simp)]
      have fin : wpAny (model X.prog X.w) X.A (setFlight (.ref a) X.env.frame) (fun _ s4 => wpAny (model X.prog X.w) X.A (throw (.ref a) : Sem Flow) (SP X pins D) X.xe s4) X.xe { s' with heap := h3 } := by
        rw [hf]
        refine HandSPX.setFlight_upZ fl3 fun h4 hh4 up4 => wpAny_throw (tk _ _ ?_)
        exact ⟨a, B, sI, pins, σ', H', cls, d, rfl, J, nb, (up.trans up3).trans up4, .inr (.inr (by rw [hs]; exact hh4)), na, os, ag, hno rfl⟩
      first
        | exact wpAny_bind (wpAny_pure (wpAny_bind fin))
        | exact wpAny_bind fin
  · cases f with
    | next =>
      obtain ⟨σ', H', J', q⟩ := hsp
      exact wpAny_execs_nil ⟨σ', H', J'.ofTry ok, q⟩
    | brk =>
      obtain ⟨σ', H', J', q⟩ := hsp
      exact ⟨σ', H', J'.ofTry ok, q⟩
    | cont =>
      obtain ⟨σ', H', J', q⟩ := hsp
      exact ⟨σ', H', J'.ofTry ok, q⟩
    | ret u =>
      obtain ⟨v, σ', H', J', r, q⟩ := hsp
      exact ⟨v, σ', H', J'.ofTry ok, r, q⟩
end
/-! ### isinstance of such, its fields -/
def rIsQ (K : PySem.W.Frag) : List V → Hp → VK → Prop := fun xs H Q => ∃ (a D dd : Addr) (fs : List (Str × V)), H a = some (exq a (.ref D) (some dd)) ∧ ExcD K D ∧ H dd = some (.xd fs) ∧
  ((∃ (c : V) (u : Value) (b : Bool), xs = [.ref a, c] ∧ ClsV c u ∧ PySem.W.kitOne K (.ref D) u = some b ∧ Q (.bl b) H) ∨
    ∃ (tp : Addr) (cs : List V) (us : List Value) (b : Bool), xs = [.ref a, .ref tp] ∧ H tp = some (.tup cs) ∧ Paired ClsV cs us ∧ PySem.W.kitAny K (.ref D) us = some b ∧ Q (.bl b) H)
theorem call_isQ {X : Cx} : CallR X (.builtin "isinstance") (rIsQ X.K) := by
  intro pins s σ H xs us Q I r h
  obtain ⟨a, D, dd, fs, ea, C, ed, h⟩ := h
  obtain ⟨oe, vs, hget, hz, hv⟩ := exq_at I.hok ea
  have hx : ObjOk X.prog X.w H s.heap dd (.xd fs) := I.hok dd _ ed
  obtain ⟨mA, hns, hr⟩ := hx
  obtain ⟨od, ho, hl⟩ := lookIn_ns hns
  have J : PySem.W.InstAt s.heap a oe D (some od) := ⟨hget, hz.1, by unfold PySem.W.notCls; rw [hv] <;> rfl, by rw [hz.2]; exact ho⟩
  have Z := PySem.W.kitx_exc (K := X.K) (x := a) (C := D) (ox := oe) (od := some od) C.cl C.hg C.hk C.hs C.ha C.hn C.ht C.hm
  rcases h with ⟨c, u, b, rfl, k, e, q⟩ | ⟨tp, cs, ws, b, rfl, hT, k, e, q⟩
  · obtain ⟨u1, u2, rfl, r1, r2⟩ := vals2 r
    cases (show u1 = Value.ref a from r1)
    have e2 := k.eq r2
    subst e2
    exact PySem.W.kia_one Z I.kIn J e (fun z => nomatch z) fun tk => ⟨.bl b, H, I.tok tk, rfl, q⟩
  · obtain ⟨u1, u2, rfl, r1, r2⟩ := vals2 r
    cases (show u1 = Value.ref a from r1)
    cases (show u2 = Value.ref tp from r2)
    obtain ⟨_, its, rv, o, h1, h2, n, h3⟩ := (show ObjOk X.prog X.w H s.heap tp (.tup cs) from I.hok tp _ hT)
    have e3 := ClsV.all k rv
    subst e3
    obtain ⟨oc, od2, dt, sl⟩ := o
    simp only at h2 h3
    subst h2 h3
    exact PySem.W.kia_tup Z I.kIn J h1 e (fun z => nomatch z) fun tk => ⟨.bl b, H, I.tok tk, rfl, q⟩
def rIsiY (K : PySem.W.Frag) : List V → Hp → VK → Prop := fun xs H Q => rIsiX K xs H Q ∨ rIsQ K xs H Q
theorem call_isiY {X : Cx} : CallR X (.builtin "isinstance") (rIsiY X.K) := call_isiX.or call_isQ
theorem call_isiYK {X : Cx} {K : PySem.W.Frag} (hK : X.K = K) : CallR X (.builtin "isinstance") (rIsiY K) := hK ▸ call_isiY
section
variable {K : PySem.W.Frag} {a D dd tp : Addr} {fs : List (Str × V)} {H : Hp} {Q : VK} {c x : V} {cs : List V} {u : Value} {us : List Value} {b : Bool}
theorem go_isY {xs : List V} (h : rIsiX K xs H Q) : rIsiY K xs H Q := .inl h
theorem go_isQ (ea : H a = some (exq a (.ref D) (some dd))) (C : ExcD K D) (ed : H dd = some (.xd fs)) (k : ClsV c u) (e : PySem.W.kitOne K (.ref D) u = some b) (h : Q (.bl b) H) : rIsiY K [.ref a, c] H Q := .inr ⟨a, D, dd, fs, ea, C, ed, .inl ⟨c, u, b, rfl, k, e, h⟩⟩
theorem go_isQT (ea : H a = some (exq a (.ref D) (some dd))) (C : ExcD K D) (ed : H dd = some (.xd fs)) (hT : H tp = some (.tup cs)) (k : Paired ClsV cs us) (e : PySem.W.kitAny K (.ref D) us = some b) (h : Q (.bl b) H) : rIsiY K [.ref a, .ref tp] H Q := .inr ⟨a, D, dd, fs, ea, C, ed, .inr ⟨tp, cs, us, b, rfl, hT, k, e, h⟩⟩
def tXq (K : PySem.W.Frag) (f : Str) (te : TE) : TE := fun σ H Q => te σ H fun x H1 => ∃ (a C dd : Addr) (fs : List (Str × V)) (v : V), x = .ref a ∧ H1 a = some (exq a (.ref C) (some dd)) ∧ XfC K C ∧ PySem.W.findIn K (.ref C) f = some none ∧ H1 dd = some (.xd fs) ∧ fs.lookup f = some v ∧ Q v H1
theorem pe_xq {X : Cx} {e : Expr} {te : TE} {pos : Pos} {n : Str} (hK : X.K = K) (he : PE X e te) (hb : attributeBase e n X.env (eval e X.env) = eval e X.env := by rfl) : PE X (.Attribute e n pos) (tXq K n te) := by
  subst hK
  refine ⟨fun pins s σ H Q I h => ?_⟩
  refine attr_of hb (thn (he.run pins s σ H _ I h) fun u s1 hh => ?_)
  obtain ⟨x, H1, I1, rx, a, C, dd, fs, v, ex, ea, T, hno, ed, l, q⟩ := hh
  subst ex
  obtain rfl : u = Value.ref a := rx
  obtain ⟨oe, vs, ha, hz, hd⟩ := exq_at I1.hok ea
  have hx : ObjOk X.prog X.w H1 s1.heap dd (.xd fs) := I1.hok dd _ ed
  obtain ⟨mA, hns, hr⟩ := hx
  obtain ⟨od, ho, hl⟩ := lookIn_ns hns
  obtain ⟨u, hu, ru⟩ := RelO.some_of (v := v) (o := mA n) (by rw [← l]; exact hr n)
  have J : PySem.W.InstAt s1.heap a oe C (some od) := ⟨ha, hz.1, by unfold PySem.W.notCls; rw [hd] <;> rfl, by rw [hz.2]; exact ho⟩
  exact HandSPX.exc_get I1.kIn J T.ga T.gg T.exC (PySem.W.findObj_own T.hdC hno rfl (by rw [hl, hu])) (handed_of ru) ⟨v, H1, I1.tok _, ru, q⟩
def XqW (K : PySem.W.Frag) (f : Str) (x : V) (H1 : Hp) (Q : VK) : Prop := ∃ (a C dd : Addr) (fs : List (Str × V)) (v : V), x = .ref a ∧ H1 a = some (exq a (.ref C) (some dd)) ∧ XfC K C ∧ PySem.W.findIn K (.ref C) f = some none ∧ H1 dd = some (.xd fs) ∧ fs.lookup f = some v ∧ Q v H1
theorem go_xq {f : Str} {te : TE} {σ : St} (h : te σ H fun x H1 => XqW K f x H1 Q) : tXq K f te σ H Q := h
theorem go_xqW {f : Str} {v : V} (ea : H a = some (exq a (.ref D) (some dd))) (T : XfC K D) (n : PySem.W.findIn K (.ref D) f = some none) (ed : H dd = some (.xd fs)) (l : fs.lookup f = some v) (h : Q v H) : XqW K f (.ref a) H Q := ⟨a, D, dd, fs, v, rfl, ea, T, n, ed, l, h⟩
theorem go_caughtX {cls c : Value} {d : Option Addr} {i : Nat} {ts : Addr → Value → Option Addr → TS} {Wout : WX} {Dd : Ends} {σ : St} (e : PySem.W.exmOne K cls c = some true)
    (h : ∀ a, H a = none → ts a cls d { nx := fun σ' H' => Dd.nx (σ'.set i none) H', rt := Dd.rt, bk := fun σ' H' => Dd.bk (σ'.set i none) H', ct := fun σ' H' => Dd.ct (σ'.set i none) H' } (σ.set i (some (.ref a))) (upd H a (exq a cls d))) : WE (wAsX K c i ts Wout Dd) σ cls d H :=
  ⟨true, e, fun _ => h, fun z => by cases z⟩
end
/-- an exception made as a value -/
def tExV (t : St → Hp → XK → Prop) : TE := fun σ H Q => t σ H fun cls d H' => ∀ a, H' a = none → Q (.ref a) (upd H' a (exq a cls d))
theorem pe_exv {X : Cx} {e : Expr} {t : St → Hp → XK → Prop} (he : PMk X e t) : PE X e (tExV t) := by
  refine ⟨fun pins s σ H Q I h => ?_⟩
  refine thn (he pins s σ H _ I h) fun u s1 hu => ?_
  obtain ⟨a, oe, vs, sI, H', cls, d, rfl, J, k, hne, ha, hz, hd, h1, na, os, ag, r, q⟩ := hu
  refine ⟨.ref a, _, Inv.landedX (B := sI.heap) J (fun b o e _ => e) k (Heap.UpToSlots.of_keeps k) os ag hne (fun hm => ?_) ha hz hd na, rfl, q a na⟩
  obtain ⟨_, o', e', _⟩ := J.stack.mem hm
  rw [hne] at e'; cases e'
def ExNew (cls : Value) (d : Option Addr) (H' : Hp) (Q : VK) : Prop := ∀ a, H' a = none → Q (.ref a) (upd H' a (exq a cls d))
theorem go_exv {t : St → Hp → XK → Prop} {σ : St} {H : Hp} {Q : VK} (h : t σ H fun cls d H' => ExNew cls d H' Q) : tExV t σ H Q := h
/-- the new exception and its dict, the heap abstract -/
theorem go_exNew {cls : Value} {d : Option Addr} {H : Hp} {Q : VK} (h : ∀ a H', H a = none → Same H H' → H' a = some (exq a cls d) → Q (.ref a) H') : ExNew cls d H Q := fun a na => h a _ na (same_new na) upd_same
end L2.A


namespace L2.A
open PySem PySem.Spec PyProof.Rows
/-! ### objects that may change, told by their cells -/
abbrev Cells := List (Addr × HO)
/-- kinds of objects that may change -/
def isMutB : HO → Bool
  | .ins _ _ _ | .dK _ | .dT _ | .lst _ | .frz _ _ => true
  | _ => false
structure Lay (L : Cells) (H : Hp) : Prop where
  nd : (L.map Prod.fst).Nodup
  has : ∀ c ∈ L, H c.1 = some c.2
  mt : ∀ c ∈ L, isMutB c.2 = true
/-- from H on: what stood in L stands as L' now, all else as it was, what is more in L' is new -/
structure Ext (L L' : Cells) (H H' : Hp) : Prop where
  kp : ∀ a o, H a = some o → a ∉ L.map Prod.fst → H' a = some o
  lay0 : Lay L H
  lay : Lay L' H'
  new : ∀ a ∈ L'.map Prod.fst, a ∈ L.map Prod.fst ∨ H a = none
  free : ∀ a, H' a = none → H a = none
theorem Lay.nil {H : Hp} : Lay [] H := ⟨List.nodup_nil, fun _ h => (by cases h), fun _ h => (by cases h)⟩
theorem Lay.get {L : Cells} {H : Hp} {p : Addr} {o : HO} (h : Lay L H) (m : (p, o) ∈ L) : H p = some o := h.has _ m
theorem Lay.same {L : Cells} {H H' : Hp} (h : Lay L H) (s : Same H H') : Lay L H' := ⟨h.nd, fun c m => s _ _ (h.has c m), h.mt⟩
theorem Lay.perm {L L' : Cells} {H : Hp} (h : Lay L H) (p : L.Perm L') : Lay L' H := ⟨(p.map Prod.fst).nodup_iff.mp h.nd, fun c m => h.has c (p.mem_iff.mpr m), fun c m => h.mt c (p.mem_iff.mpr m)⟩
theorem Lay.left {L R : Cells} {H : Hp} (h : Lay (L ++ R) H) : Lay L H := ⟨by have := h.nd; rw [List.map_append] at this; exact (List.nodup_append.mp this).1, fun c m => h.has c (List.mem_append_left _ m), fun c m => h.mt c (List.mem_append_left _ m)⟩
theorem Lay.right {L R : Cells} {H : Hp} (h : Lay (L ++ R) H) : Lay R H := ⟨by have := h.nd; rw [List.map_append] at this; exact (List.nodup_append.mp this).2.1, fun c m => h.has c (List.mem_append_right _ m), fun c m => h.mt c (List.mem_append_right _ m)⟩
theorem Lay.pull {L B R : Cells} {H : Hp} (h : Lay L H) (p : L.Perm (B ++ R)) : Lay B H := (h.perm p).left
theorem Lay.tup {L : Cells} {H : Hp} (h : Lay L H) {a : Addr} {xs : List V} (e : H a = some (.tup xs)) : a ∉ L.map Prod.fst := fun m => by
  obtain ⟨c, mc, rfl⟩ := List.mem_map.mp m
  have h1 := h.has c mc
  have h2 := h.mt c mc
  rw [h1] at e
  rw [Option.some.inj e] at h2
  cases h2
theorem Lay.free {L : Cells} {H : Hp} (h : Lay L H) {a : Addr} (e : H a = none) : a ∉ L.map Prod.fst := fun m => by
  obtain ⟨c, mc, rfl⟩ := List.mem_map.mp m
  rw [h.has c mc] at e
  cases e
theorem Lay.cons {L : Cells} {H : Hp} (h : Lay L H) {a : Addr} {o : HO} (n : a ∉ L.map Prod.fst) (e : H a = some o) (m : isMutB o = true) : Lay ((a, o) :: L) H :=
  ⟨List.nodup_cons.mpr ⟨n, h.nd⟩, fun c mc => by
    rcases List.mem_cons.mp mc with rfl | mc
    · exact e
    · exact h.has c mc, fun c mc => by
    rcases List.mem_cons.mp mc with rfl | mc
    · exact m
    · exact h.mt c mc⟩
theorem Ext.refl {L : Cells} {H : Hp} (h : Lay L H) : Ext L L H H := ⟨fun _ _ e _ => e, h, h, fun a m => .inl m, fun _ e => e⟩
theorem Ext.tup {L L' : Cells} {H H' : Hp} (x : Ext L L' H H') {a : Addr} {xs : List V} (e : H a = some (.tup xs)) : H' a = some (.tup xs) := x.kp a _ e (x.lay0.tup e)
theorem Ext.trans {L L' L'' : Cells} {H H' H'' : Hp} (x : Ext L L' H H') (y : Ext L' L'' H' H'') : Ext L L'' H H'' := by
  have back : ∀ a, a ∈ L'.map Prod.fst → ∀ o, H a = some o → a ∈ L.map Prod.fst := fun a m o e => by
    rcases x.new a m with h | h
    · exact h
    · rw [h] at e; cases e
  refine ⟨fun a o e n => y.kp a o (x.kp a o e n) fun m => n (back a m o e), x.lay0, y.lay, fun a m => ?_, fun a e => x.free a (y.free a e)⟩
  rcases y.new a m with h | h
  · exact x.new a h
  · exact .inr (x.free a h)
theorem Ext.same {L L' : Cells} {H H' H'' : Hp} (x : Ext L L' H H') (s : Same H' H'') : Ext L L' H H'' := ⟨fun a o e n => s _ _ (x.kp a o e n), x.lay0, x.lay.same s, x.new, fun a e => x.free a (s.free e)⟩
theorem Ext.of_same {L : Cells} {H H' : Hp} (h : Lay L H) (s : Same H H') : Ext L L H H' := (Ext.refl h).same s
/-- nothing changed but what is new -/
theorem Ext.toSame {L : Cells} {H H' : Hp} (x : Ext [] L H H') : Same H H' := fun a o e => x.kp a o e (fun m => nomatch m)
theorem Ext.toSame' {L L' R : Cells} {H H' : Hp} (x : Ext L L' H H') (p : L'.Perm (L ++ R)) : Same H H' := fun a o e => by
  by_cases m : a ∈ L.map Prod.fst
  · obtain ⟨c, mc, rfl⟩ := List.mem_map.mp m
    have h1 := x.lay0.has c mc
    rw [e] at h1
    rw [Option.some.inj h1]
    exact x.lay.has c (p.mem_iff.mpr (List.mem_append_left _ mc))
  · exact x.kp a o e m
theorem Ext.perm {L L' B : Cells} {H H' : Hp} (x : Ext L L' H H') (p : L'.Perm B) : Ext L B H H' := ⟨x.kp, x.lay0, x.lay.perm p, fun a m => x.new a ((p.map Prod.fst).mem_iff.mpr m), x.free⟩
theorem Ext.drop {L L' B R : Cells} {H H' : Hp} (x : Ext L L' H H') (p : L'.Perm (B ++ R)) : Ext L B H H' := ⟨x.kp, x.lay0, x.lay.pull p, fun a m => x.new a ((p.map Prod.fst).mem_iff.mpr (by rw [List.map_append]; exact List.mem_append_left _ m)), x.free⟩
theorem Ext.perm0 {L L' B : Cells} {H H' : Hp} (x : Ext L L' H H') (p : L.Perm B) : Ext B L' H H' := ⟨fun a o e n => x.kp a o e fun m => n ((p.map Prod.fst).mem_iff.mp m), x.lay0.perm p, x.lay, fun a m => (x.new a m).imp (fun z => (p.map Prod.fst).mem_iff.mp z) id, x.free⟩
/-- what is around stays -/
theorem Ext.frame {B B' R : Cells} {H H' : Hp} (h : Lay (B ++ R) H) (x : Ext B B' H H') : Ext (B ++ R) (B' ++ R) H H' := by
  have nd := h.nd
  rw [List.map_append] at nd
  obtain ⟨n1, n2, n3⟩ := List.nodup_append.mp nd
  have rB : ∀ c ∈ R, c.1 ∉ B.map Prod.fst := fun c mc mb => n3 _ mb _ (List.mem_map_of_mem mc) rfl
  refine ⟨fun a o e n => x.kp a o e fun m => n (by rw [List.map_append]; exact List.mem_append_left _ m), h, ⟨?_, fun c mc => ?_, fun c mc => ?_⟩, fun a m => ?_, x.free⟩
  · rw [List.map_append]
    refine List.nodup_append.mpr ⟨x.lay.nd, n2, fun a ma b mb e => ?_⟩
    subst e
    rcases x.new a ma with z | z
    · exact n3 _ z _ mb rfl
    · obtain ⟨c, mc, rfl⟩ := List.mem_map.mp mb
      rw [h.has c (List.mem_append_right _ mc)] at z; cases z
  · rcases List.mem_append.mp mc with m | m
    · exact x.lay.has c m
    · exact x.kp _ _ (h.has c (List.mem_append_right _ m)) (rB c m)
  · rcases List.mem_append.mp mc with m | m
    · exact x.lay.mt c m
    · exact h.mt c (List.mem_append_right _ m)
  · rw [List.map_append] at m ⊢
    rcases List.mem_append.mp m with m | m
    · exact (x.new a m).imp (fun z => List.mem_append_left _ z) id
    · exact .inl (List.mem_append_right _ m)
/-- a call that changes the block B -/
theorem Ext.call {L0 L B B' R : Cells} {H0 H H' : Hp} (x : Ext L0 L H0 H) (p : L.Perm (B ++ R)) (y : Ext B B' H H') : Ext L0 (B' ++ R) H0 H' := (x.perm p).trans (Ext.frame (x.lay.perm p) y)
/-- one cell anew -/
theorem Ext.put {L0 L R : Cells} {H0 H : Hp} {a : Addr} {o o' : HO} (x : Ext L0 L H0 H) (p : L.Perm ((a, o) :: R)) (m : isMutB o' = true) : Ext L0 ((a, o') :: R) H0 (upd H a o') := by
  have h := x.lay.perm p
  have nd := h.nd
  rw [List.map_cons, List.nodup_cons] at nd
  refine (x.perm p).trans ⟨fun b u e n => by rw [upd_ne (fun z => n (by rw [z]; exact List.mem_cons_self ..))]; exact e, h, ⟨?_, fun c mc => ?_, fun c mc => ?_⟩, fun b mb => .inl mb, fun b e => upd_free e⟩
  · exact List.nodup_cons.mpr nd
  · rcases List.mem_cons.mp mc with rfl | mc
    · exact upd_same
    · rw [upd_ne (fun z => nd.1 (by rw [← z]; exact List.mem_map.mpr ⟨c, mc, rfl⟩))]
      exact h.has c (List.mem_cons_of_mem _ mc)
  · rcases List.mem_cons.mp mc with rfl | mc
    · exact m
    · exact h.mt c (List.mem_cons_of_mem _ mc)
/-- a new cell -/
theorem Ext.add {L0 L : Cells} {H0 H H' : Hp} {a : Addr} {o : HO} (x : Ext L0 L H0 H) (n : H a = none) (s : Same H H') (e : H' a = some o) (m : isMutB o = true) : Ext L0 ((a, o) :: L) H0 H' :=
  ⟨fun b u e n => s _ _ (x.kp b u e n), x.lay0, (x.lay.same s).cons (x.lay.free n) e m, fun b mb => by
    rcases List.mem_cons.mp mb with rfl | mb
    · exact .inr (x.free _ n)
    · exact x.new b mb, fun b e => x.free b (s.free e)⟩
theorem Ext.addU {L0 L : Cells} {H0 H : Hp} {a : Addr} {o : HO} (x : Ext L0 L H0 H) (n : H a = none) (m : isMutB o = true) : Ext L0 ((a, o) :: L) H0 (upd H a o) := x.add n (same_new n) upd_same m
theorem Ext.newU {L0 L : Cells} {H0 H : Hp} {a : Addr} {o : HO} (x : Ext L0 L H0 H) (n : H a = none) : Ext L0 L H0 (upd H a o) := x.same (same_new n)
/-! ### finding a block -/
theorem pm_here {B R : Cells} : (B ++ R).Perm (B ++ R) := .refl _
theorem pm_all {B : Cells} : B.Perm (B ++ []) := by rw [List.append_nil]
theorem pm_app {A B L R : Cells} (h : L.Perm (B ++ R)) : (A ++ L).Perm (B ++ (A ++ R)) := (h.append_left A).trans (by rw [← List.append_assoc, ← List.append_assoc]; exact List.perm_append_comm.append_right R)
theorem pm_cons {c : Addr × HO} {B L R : Cells} (h : L.Perm (B ++ R)) : (c :: L).Perm (B ++ (c :: R)) := (h.cons c).trans List.perm_middle.symm
theorem pm_nil {L : Cells} : L.Perm ([] ++ L) := .refl _
theorem pm_two {B C L R R' : Cells} (h : L.Perm (B ++ R)) (h' : R.Perm (C ++ R')) : L.Perm ((B ++ C) ++ R') := h.trans ((h'.append_left B).trans (by rw [List.append_assoc]))
theorem pc_here {c : Addr × HO} {R : Cells} : (c :: R).Perm (c :: R) := .refl _
theorem pc_cons {c d : Addr × HO} {L R : Cells} (h : L.Perm (d :: R)) : (c :: L).Perm (d :: c :: R) := (h.cons c).trans (.swap ..)
theorem pc_app {d : Addr × HO} {A L R : Cells} (h : L.Perm (d :: R)) : (A ++ L).Perm (d :: (A ++ R)) := (h.append_left A).trans List.perm_middle
end L2.A

namespace L2.A
open PySem PySem.Spec PyProof.Rows
/-! ### dicts of names: names alone, names with numbers -/
def setO (zs : List Str) : HO := .dK (zs.map fun z => (Sum.inr z, V.bl true))
def cntO (ks : List (Str × Int)) : HO := .dK (ks.map fun kv => (Sum.inr kv.1, V.int kv.2))
def addS (zs : List Str) (z : Str) : List Str := if z ∈ zs then zs else zs ++ [z]
def cntV (ks : List (Str × Int)) (z : Str) : Option Int := (ks.find? fun kv => decide (kv.1 = z)).map (·.2)
def cntP (ks : List (Str × Int)) (z : Str) (n : Int) : List (Str × Int) := if (cntV ks z).isSome = true then ks.map (fun kv => if kv.1 = z then (kv.1, n) else kv) else ks ++ [(z, n)]
theorem valV_set {zs : List Str} {z : Str} : valV (zs.map fun z => ((Sum.inr z : Key), V.bl true)) (Sum.inr z) = if z ∈ zs then some (.bl true) else none := by
  induction zs with
  | nil => rfl
  | cons y r ih =>
    rw [List.map_cons]
    by_cases e : y = z
    · subst e
      rw [valV_pos rfl]; simp
    · rw [valV_neg (by simpa using e), ih]
      have : ¬ z = y := fun h => e h.symm
      simp [this]
theorem putK_set {zs : List Str} {z : Str} : putK (zs.map fun z => ((Sum.inr z : Key), V.bl true)) (Sum.inr z) (.bl true) = (addS zs z).map fun z => ((Sum.inr z : Key), V.bl true) := by
  unfold putK addS
  rw [valV_any, valV_set]
  by_cases e : z ∈ zs
  · rw [if_pos e, if_pos (show (some (V.bl true)).isSome = true from rfl), if_pos e, List.map_map]
    refine List.map_congr_left fun y _ => ?_
    show (if (Sum.inr y : Key) = Sum.inr z then ((Sum.inr y : Key), V.bl true) else (Sum.inr y, V.bl true)) = _
    by_cases q : (Sum.inr y : Key) = Sum.inr z
    · rw [if_pos q]
    · rw [if_neg q]
  · rw [if_neg e, if_neg (by decide), if_neg e, List.map_append]; rfl
theorem valV_cnt {ks : List (Str × Int)} {z : Str} : valV (ks.map fun kv => ((Sum.inr kv.1 : Key), V.int kv.2)) (Sum.inr z) = (cntV ks z).map V.int := by
  unfold cntV
  induction ks with
  | nil => rfl
  | cons y r ih =>
    rw [List.map_cons]
    by_cases e : y.1 = z
    · rw [valV_pos (by simp [e]), List.find?_cons, decide_eq_true e]; rfl
    · rw [valV_neg (by simpa using e), ih, List.find?_cons, decide_eq_false e]
theorem putK_cnt {ks : List (Str × Int)} {z : Str} {n : Int} : putK (ks.map fun kv => ((Sum.inr kv.1 : Key), V.int kv.2)) (Sum.inr z) (.int n) = (cntP ks z n).map fun kv => ((Sum.inr kv.1 : Key), V.int kv.2) := by
  unfold putK cntP
  rw [valV_any, valV_cnt]
  by_cases e : (cntV ks z).isSome = true
  · rw [if_pos (by rw [Option.isSome_map]; exact e), if_pos e, List.map_map, List.map_map]
    refine List.map_congr_left fun y _ => ?_
    show (if (Sum.inr y.1 : Key) = Sum.inr z then ((Sum.inr y.1 : Key), V.int n) else (Sum.inr y.1, V.int y.2)) = _
    by_cases q : y.1 = z
    · rw [if_pos (by rw [q])]; simp [q]
    · rw [if_neg (by simpa using q)]; simp [q]
  · rw [if_neg (by rw [Option.isSome_map]; exact e), if_neg e, List.map_append]; rfl
section
variable {K : PySem.W.Frag} {H : Hp} {Q : VK} {p : Addr} {zs : List Str} {ks : List (Str × Int)} {z : Str} {QH : Hp → Prop}
theorem go_inS (hp : H p = some (setO zs)) (h : Q (.bl (decide (z ∈ zs))) H) : rInX K (.str z) (.ref p) H Q := by
  refine .inr (.inr ⟨p, _, rfl, DGet.k (k := Sum.inr z) hp, ?_⟩)
  rw [valV_set]
  by_cases e : z ∈ zs
  · rw [if_pos e]; rwa [decide_eq_true e] at h
  · rw [if_neg e]; rwa [decide_eq_false e] at h
theorem go_inC (hp : H p = some (cntO ks)) (h : Q (.bl (cntV ks z).isSome) H) : rInX K (.str z) (.ref p) H Q := by
  refine .inr (.inr ⟨p, _, rfl, DGet.k (k := Sum.inr z) hp, ?_⟩)
  rw [valV_cnt, Option.isSome_map]; exact h
theorem go_sS (hp : H p = some (setO zs)) (l : zs.length ≤ 10000) (h : QH (upd H p (setO (addS zs z)))) : rSetX (.ref p) (.str z) (.bl true) H QH := by
  refine go_sKs hp (by rw [List.length_map]; exact szl (by omega)) ?_
  rw [putK_set]; exact h
theorem go_sC {n : Int} (hp : H p = some (cntO ks)) (l : ks.length ≤ 10000) (h : QH (upd H p (cntO (cntP ks z n)))) : rSetX (.ref p) (.str z) (.int n) H QH := by
  refine go_sKs hp (by rw [List.length_map]; exact szl (by omega)) ?_
  rw [putK_cnt]; exact h
theorem go_xC {n : Int} (hp : H p = some (cntO ks)) (e : cntV ks z = some n) (h : Q (.int n) H) : rIxX K (.ref p) (.str z) H Q := go_xKs hp (by rw [valV_cnt, e]; rfl) h
theorem go_getC {n : Int} (hp : H p = some (cntO ks)) (h : Q (.int ((cntV ks z).getD n)) H) : Dg2K p (.str z) (.int n) H Q := by
  refine go_dg2S hp ?_
  rw [valV_cnt]
  cases e : cntV ks z with
  | none => rw [e] at h; exact h
  | some v => rw [e] at h; exact h
end
theorem addS_len {zs : List Str} {z : Str} : (addS zs z).length ≤ zs.length + 1 := by
  unfold addS
  split <;> simp
theorem cntP_len {ks : List (Str × Int)} {z : Str} {n : Int} : (cntP ks z n).length ≤ ks.length + 1 := by
  unfold cntP
  split <;> simp
end L2.A


namespace L2.A
open PySem PySem.Spec PyProof.Rows
/-! ### stores by cells -/
/-- tuples stay -/
def TupKeep (H H' : Hp) : Prop := ∀ a xs, H a = some (.tup xs) → H' a = some (.tup xs)
theorem TupKeep.at {H H' : Hp} {a : Addr} {xs : List V} (t : TupKeep H H') (h : H a = some (.tup xs)) : H' a = some (.tup xs) := t a xs h
theorem TupKeep.of_same {H H' : Hp} (s : Same H H') : TupKeep H H' := fun a xs h => s _ _ h
theorem Ext.tk {L L' : Cells} {H H' : Hp} (x : Ext L L' H H') : TupKeep H H' := fun a xs h => x.tup h
theorem pc_inl {d : Addr × HO} {A A' L : Cells} (h : A.Perm (d :: A')) : (A ++ L).Perm (d :: (A' ++ L)) := h.append_right L
theorem pl_nil {L : Cells} : L.Perm ([] ++ L) := .refl _
theorem pl_cons {c : Addr × HO} {B L L1 R : Cells} (h : L.Perm (c :: L1)) (h' : L1.Perm (B ++ R)) : L.Perm ((c :: B) ++ R) := h.trans (h'.cons c)
theorem pl_app {B C L L1 R : Cells} (h : L.Perm (B ++ L1)) (h' : L1.Perm (C ++ R)) : L.Perm ((B ++ C) ++ R) := pm_two h h'
theorem tk_put {L R : Cells} {H : Hp} {a : Addr} {o o' : HO} (h : Lay L H) (p : L.Perm ((a, o) :: R)) : TupKeep H (upd H a o') := fun b xs e => by
  have n := (h.perm p).tup e
  rw [upd_ne (fun z => n (by rw [z]; exact List.mem_cons_self ..))]
  exact e
section
variable {K : PySem.W.Frag} {f : Str} {y z v : V} {D : Ends} {σ : St} {Q : VK} {QS : St → Hp → Prop} {QH : Hp → Prop} {a C dx l : Addr} {fs fs' : List (Str × V)} {L0 L R : Cells} {H0 H : Hp} {xs : List V}
theorem go_sfldX (x : Ext L0 L H0 H) (p : L.Perm ((a, .ins C dx fs) :: R)) (c : Cls K C) (n : NoAttr K C f) (s : Nat.ble fs.length 900 = true) (e : putF f y fs = fs')
    (h : ∀ H', Ext L0 ((a, .ins C dx fs') :: R) H0 H' → TupKeep H H' → D.nx σ H') : SFldW K f y D σ (.ref a) H :=
  go_sfldW ((x.lay.perm p).get (.head _)) c n s e (h _ (x.put p rfl) (tk_put x.lay p))
theorem go_gfldX (x : Ext L0 L H0 H) (p : L.Perm ((a, .ins C dx fs) :: R)) (c : Cls K C) (n : NoAttr K C f) (s : Nat.ble fs.length 900 = true) (e : putF f v fs = fs')
    (h : ∀ H', Ext L0 ((a, .ins C dx fs') :: R) H0 H' → TupKeep H H' → QS σ H') : GFldW K f v σ (.ref a) H QS :=
  go_gfldW ((x.lay.perm p).get (.head _)) c n s e (h _ (x.put p rfl) (tk_put x.lay p))
theorem go_astX (x : Ext L0 L H0 H) (p : L.Perm ((a, .ins C dx fs) :: R)) (s : Nat.ble fs.length 900 = true) (e : putF f z fs = fs')
    (h : ∀ H', Ext L0 ((a, .ins C dx fs') :: R) H0 H' → TupKeep H H' → D.nx σ H') : AStW C f a D σ z H :=
  go_astW ((x.lay.perm p).get (.head _)) s e (h _ (x.put p rfl) (tk_put x.lay p))
theorem go_sLX {j : Int} {n : Nat} (x : Ext L0 L H0 H) (p : L.Perm ((l, .lst xs) :: R)) (hj : ixN xs.length j = some n) (h : ∀ H', Ext L0 ((l, .lst (xs.set n v)) :: R) H0 H' → TupKeep H H' → QH H') : rSetX (.ref l) (.int j) v H QH :=
  go_sL ((x.lay.perm p).get (.head _)) hj (h _ (x.put p rfl) (tk_put x.lay p))
theorem go_appendX (x : Ext L0 L H0 H) (p : L.Perm ((l, .lst xs) :: R)) (s : xs.length < 100000) (h : ∀ H', Ext L0 ((l, .lst (xs ++ [y])) :: R) H0 H' → TupKeep H H' → Q .non H') : rAppend (.ref l) [y] H Q :=
  go_append ((x.lay.perm p).get (.head _)) s (h _ (x.put p rfl) (tk_put x.lay p))
theorem go_sSX {zs : List Str} {k : Str} (x : Ext L0 L H0 H) (p : L.Perm ((l, setO zs) :: R)) (s : zs.length ≤ 10000) (h : ∀ H', Ext L0 ((l, setO (addS zs k)) :: R) H0 H' → TupKeep H H' → QH H') : rSetX (.ref l) (.str k) (.bl true) H QH :=
  go_sS ((x.lay.perm p).get (.head _)) s (h _ (x.put p rfl) (tk_put x.lay p))
theorem go_sCX {ks : List (Str × Int)} {k : Str} {n : Int} (x : Ext L0 L H0 H) (p : L.Perm ((l, cntO ks) :: R)) (s : ks.length ≤ 10000) (h : ∀ H', Ext L0 ((l, cntO (cntP ks k n)) :: R) H0 H' → TupKeep H H' → QH H') : rSetX (.ref l) (.str k) (.int n) H QH :=
  go_sC ((x.lay.perm p).get (.head _)) s (h _ (x.put p rfl) (tk_put x.lay p))
theorem go_sKX {kvs kvs' : List (Key × V)} {k : Str} (x : Ext L0 L H0 H) (p : L.Perm ((l, .dK kvs) :: R)) (s : Nat.ble kvs.length 1000 = true) (e : putK kvs (Sum.inr k) v = kvs') (h : ∀ H', Ext L0 ((l, .dK kvs') :: R) H0 H' → TupKeep H H' → QH H') : rSetX (.ref l) (.str k) v H QH :=
  go_sKs ((x.lay.perm p).get (.head _)) (Nat.lt_of_le_of_lt (Nat.le_of_ble_eq_true s) (by decide)) (by rw [e]; exact h _ (x.put p rfl) (tk_put x.lay p))
/-- new objects -/
theorem go_newM {o : HO} (x : Ext L0 L H0 H) (m : isMutB o = true) (h : ∀ p H', H p = none → Ext L0 ((p, o) :: L) H0 H' → TupKeep H H' → Q (.ref p) H') : NewO o H Q := fun p hp => h p _ hp (x.addU hp m) (.of_same (same_new hp))
theorem go_newTp (x : Ext L0 L H0 H) (h : ∀ p H', H p = none → Ext L0 L H0 H' → TupKeep H H' → H' p = some (.tup xs) → Q (.ref p) H') : NewO (.tup xs) H Q := fun p hp => h p _ hp (x.newU hp) (.of_same (same_new hp)) upd_same
theorem Ext.callS {L0 L : Cells} {H0 H H' : Hp} (x : Ext L0 L H0 H) (s : Same H H') : Ext L0 L H0 H' := x.same s
end
/-- parts of written tuples -/
inductive DropR : Nat → List V → List V → Prop
  | zero {xs : List V} : DropR 0 xs xs
  | succ {n : Nat} {x : V} {xs ys : List V} : DropR n xs ys → DropR (n + 1) (x :: xs) ys
inductive TakeR : Nat → List V → List V → Prop
  | zero {xs : List V} : TakeR 0 xs []
  | succ {n : Nat} {x : V} {xs ys : List V} : TakeR n xs ys → TakeR (n + 1) (x :: xs) (x :: ys)
theorem DropR.eq {n : Nat} {xs ys : List V} (h : DropR n xs ys) : xs.drop n = ys ∧ n ≤ xs.length := by
  induction h with
  | zero => exact ⟨rfl, Nat.zero_le _⟩
  | succ _ ih => exact ⟨ih.1, Nat.succ_le_succ ih.2⟩
theorem TakeR.eq {n : Nat} {xs ys : List V} (h : TakeR n xs ys) : xs.take n = ys ∧ n ≤ xs.length := by
  induction h with
  | zero => exact ⟨rfl, Nat.zero_le _⟩
  | succ _ ih => exact ⟨by rw [List.take_succ_cons, ih.1], Nat.succ_le_succ ih.2⟩
theorem cut_mid {xs : List V} {j k : Nat} (h : j ≤ k) (h2 : k ≤ xs.length) : cutV xs (some (j : Int)) (some (k : Int)) = (xs.drop j).take (k - j) := by
  unfold cutV
  rw [HT.sIx_nat, HT.sIx_nat, Nat.min_eq_left h2, Nat.min_eq_left (Nat.le_trans h h2)]
section
variable {K : PySem.W.Frag} {H : Hp} {Q : VK} {p : Addr} {xs ys zs : List V} {i j : Int}
theorem sIx_of {k n : Nat} : HT.sIx n 0 (some (k : Int)) = min k n := HT.sIx_nat ..
theorem go_slTD (k : Nat) (hp : SqT K H p xs) (hi : i = ((k + 1 : Nat) : Int)) (hk : DropR (k + 1) xs ys) (h : NewO (.tup ys) H Q) : rSlX K (.ref p) (some i) none H Q := by
  subst hi
  obtain ⟨e, l⟩ := hk.eq
  refine go_slT (lo := some ((k + 1 : Nat) : Int)) (hi := none) hp (by rw [cut_drop l]; exact e) ?_ h
  rw [HT.sIx_nat, Nat.min_eq_left l]
  rfl
theorem go_slTT (k : Nat) (hp : SqT K H p xs) (hi : i = (k : Int)) (hk : TakeR k xs ys) (hn : Nat.beq k xs.length = false) (h : NewO (.tup ys) H Q) : rSlX K (.ref p) none (some i) H Q := by
  subst hi
  obtain ⟨e, l⟩ := hk.eq
  refine go_slT (lo := none) (hi := some (k : Int)) hp (by rw [cut_take l]; exact e) ?_ h
  rw [HT.sIx_nat, Nat.min_eq_left l, hn, Bool.and_false]
theorem go_slTM (k m : Nat) (hp : SqT K H p xs) (hi : i = ((k + 1 : Nat) : Int)) (hj : j = ((k + 1 + m : Nat) : Int)) (hk : DropR (k + 1) xs ys) (hm : TakeR m ys zs) (h : NewO (.tup zs) H Q) : rSlX K (.ref p) (some i) (some j) H Q := by
  subst hi hj
  obtain ⟨e, l⟩ := hk.eq
  obtain ⟨e2, l2⟩ := hm.eq
  have l3 : ys.length = xs.length - (k + 1) := by rw [← e, List.length_drop]
  refine go_slT (lo := some ((k + 1 : Nat) : Int)) (hi := some ((k + 1 + m : Nat) : Int)) hp (by rw [cut_mid (by omega) (by omega), e, show k + 1 + m - (k + 1) = m by omega]; exact e2) ?_ h
  rw [HT.sIx_nat, Nat.min_eq_left l]
  rfl
theorem go_slLD (k : Nat) (hp : SqL K H p xs) (hi : i = (k : Int)) (hk : DropR k xs ys) (h : NewO (.lst ys) H Q) : rSlX K (.ref p) (some i) none H Q := by
  subst hi
  obtain ⟨e, l⟩ := hk.eq
  exact go_slL (lo := some (k : Int)) (hi := none) hp (by rw [cut_drop l]; exact e) h
end
end L2.A


namespace L2.A
open PySem PySem.Spec PyProof.Rows
/-! ### enumerate from any count, over lists and tuples -/
def Itk (Sq : Hp → Addr → List V → Prop) (k0 : Int) (a : Addr) : It :=
  ⟨fun i H => ∃ (xs : List V) (x : V), Sq H a xs ∧ xs[i]? = some x, fun i H v H' => ∃ T x, v = .ref T ∧ H T = none ∧ H' = upd H T (.tup [.int (k0 + (i : Nat)), x]) ∧ ∀ zs, Sq H a zs → zs[i]? = some x, fun i H => ∃ xs : List V, Sq H a xs ∧ xs.length = i⟩
abbrev EnTn (k0 : Int) (a e it : Addr) (Li : Heap → Addr → Addr → Nat → Prop) (i : Nat) (h : Heap) : Prop :=
  (∃ old, IsEnum h e it (k0 + ((i : Nat) : Int)) old) ∧ Li h it a i ∧ e ≠ it ∧ a ≠ it ∧ e ≠ a
theorem turn_enK {P : Program} {w : World} {K : PySem.W.Frag} {elts : List Expr} {kk : Nat} {tpos : Pos} (k0 : Int) (a e it : Addr) {Li : Heap → Addr → Addr → Nat → Prop} {Is : Heap → Addr → Array Value → Prop} {Sq : Hp → Addr → List V → Prop}
    (hob : ∀ h i, Li h it a i → ∃ o, h.get? it = some o ∧ ∀ v, o.data ≠ .cell v)
    (hkp : ∀ h h' i, Li h it a i → (∀ o, h.get? it = some o → h'.get? it = some o) → Li h' it a i)
    (hdr : ∀ (A : Around), A.handled = none → a ≠ it → ∀ its : Array Value, Draws P w A it [it, a] its.size (fun i v => its[i]? = some v) (fun i h => Li h it a i ∧ Is h a its))
    (hsq : ∀ (X : Cx) (pins : List (Addr × Obj)) (s : Shared) (σ : St) (H : Hp) (xs : List V), X.K = K → Inv X pins σ H s → Sq H a xs → ∃ its : List Value, Vals xs its ∧ Is s.heap a its.toArray)
    (hin : ∀ (X : Cx) (pins : List (Addr × Obj)) (s : Shared) (σ : St) (H : Hp) (xs ys : List V), X.K = K → Inv X pins σ H s → Sq H a xs → Sq H a ys → xs = ys) :
    Turn P w K (.Tuple elts kk tpos) (Itk Sq k0 a) [e, it] e (EnTn k0 a e it Li) where
  mem := List.mem_cons_self
  obj := fun i h ⟨⟨old, he⟩, hl, _⟩ b hb => by
    rcases List.mem_cons.mp hb with z | z
    · subst z; exact ⟨_, he, fun v q => nomatch q⟩
    · rw [List.mem_singleton.mp z]; exact hob h i hl
  keep := fun i h h' ⟨⟨old, he⟩, hl, r⟩ k => ⟨⟨old, k e List.mem_cons_self _ he⟩, hkp h h' i hl (k it (by simp)), r⟩
  item := by
    intro X hP hw hK hc i pins s σ H E I hf ⟨⟨old, he⟩, hl, h1, h2, h3⟩ ⟨xs, x, hq, hx⟩
    subst hP hw
    obtain ⟨its, rv, p⟩ := hsq X pins s σ H xs hK I hq
    obtain ⟨u, hu, ru⟩ := rv.get hx
    have hu' : its.toArray[i]? = some u := by simpa using hu
    have hlt : i < its.toArray.size := by
      rcases Nat.lt_or_ge i its.toArray.size with q | q
      · exact q
      · rw [Array.getElem?_eq_none q] at hu'; cases hu'
    have el : e < s.heap.objs.size := Heap.lt_size he
    have il : it < s.heap.objs.size := by obtain ⟨o, q, _⟩ := hob _ _ hl; exact Heap.lt_size q
    refine wpAny_pyNext_enum_itemC (hdr X.A.in1 (I.ok.hd hc) h2 its.toArray) he ⟨hl, p⟩ hlt h1 (by simp [h1, h3]) fun u2 h' tk eu ho hl2 hT hsz hk => ?_
    obtain rfl : u2 = u := Option.some.inj (eu.symm.trans hu')
    refine ⟨_, rfl, wpAny_letOwnedTupleGo_enum (s := { s with heap := h', toks := tk + 1 }) ho fun h2' he' sb => ?_⟩
    have hT2 : h2'.get? s.heap.objs.size = some { cls := .type "tuple", data := .seq #[.int (k0 + (i : Int)) tk, u2] } := (sb.2 _ (Nat.ne_of_gt el)).trans hT
    have nw : ObjOk X.prog X.w (upd H s.heap.objs.size (.tup [.int (k0 + (i : Nat)), x])) h2' s.heap.objs.size (.tup [.int (k0 + (i : Nat)), x]) :=
      ⟨show 2 ≤ sizeLine by decide, [.int (k0 + (i : Int)) tk, u2], .cons ⟨tk, rfl⟩ (.cons ru .nil), ⟨_, hT2, rfl, _, rfl⟩⟩
    have I1 : Inv X pins σ (upd H s.heap.objs.size (.tup [.int (k0 + (i : Nat)), x])) { s with heap := h2', toks := tk + 1 } :=
      I.turnedNew (ch := [e, it]) (fun b ob hb q => (sb.2 b fun z => hb (by simp [z])).trans (hk b ob (fun z => hb (by simp [z])) (fun z => hb (by simp [z])) q)) hf (Nat.le_refl _) nw
    refine ⟨.ref s.heap.objs.size, _, I1, rfl, ⟨_, x, rfl, I.hok.fresh (Nat.le_refl _), rfl, fun ys hy => by rw [hin X pins s σ H _ _ hK I hy hq]; exact hx⟩, ⟨⟨u2, ?_⟩, hkp h' h2' _ hl2.1 fun o q => (sb.2 it (Ne.symm h1)).trans q, h1, h2, h3⟩, fun b hb => ?_⟩
    · rw [show k0 + ((i + 1 : Nat) : Int) = k0 + (i : Int) + 1 by omega]; exact he'
    · have hb' : b < s.heap.objs.size := by
        rcases List.mem_cons.mp hb with z | z
        · rw [z]; exact el
        · rw [List.mem_singleton.mp z]; exact il
      rw [upd_ne (Nat.ne_of_lt hb')]
      exact (hf b hb).1
  done := by
    intro X hP hw hK hc i pins s σ H E I hf ⟨⟨old, he⟩, hl, h1, h2, h3⟩ ⟨xs, hq, hx⟩
    subst hP hw
    obtain ⟨its, rv, p⟩ := hsq X pins s σ H xs hK I hq
    obtain ⟨f0, f1, f2, f3, f4, f5⟩ := hf it (by simp)
    obtain rfl : its.toArray.size = i := by rw [← hx, List.size_toArray]; exact rv.length.symm
    exact wpAny_pyNext_enum_endD (hdr X.A.in1 (I.ok.hd hc) h2 its.toArray) he ⟨hl, p⟩ fun h' eb => ⟨rfl, I.turned (t' := s.toks) (fun b o hb q => eb b o hb q) f0 f1 f3 f4 f5⟩
  self := fun A i s Q E ⟨⟨_, he⟩, _⟩ h => wpAny_pyIter_enum he h
theorem turn_enL {P : Program} {w : World} {K : PySem.W.Frag} {elts : List Expr} {kk : Nat} {tpos : Pos} (k0 : Int) (a e it : Addr) :
    Turn P w K (.Tuple elts kk tpos) (Itk (SqL K) k0 a) [e, it] e (EnTn k0 a e it fun h it a i => h.IsListIter it a i) :=
  turn_enK k0 a e it (Is := fun h a its => h.IsList a its) (fun h i ⟨o, h1, _, h3⟩ => ⟨o, h1, fun v q => by rw [h3] at q; cases q⟩) (fun h h' i hl k => hl.at k)
    (fun A hh hne its => Draws.list hh it a hne its) (fun X pins s σ H xs hK I hq => by subst hK; obtain ⟨its, rv, p, _⟩ := I.list hq; exact ⟨its, rv, p.isList⟩)
    (fun X pins s σ H xs ys hK I h1 h2 => by subst hK; exact I.list_inj h1 h2)
theorem turn_enT {P : Program} {w : World} {K : PySem.W.Frag} {elts : List Expr} {kk : Nat} {tpos : Pos} (k0 : Int) (a e it : Addr) :
    Turn P w K (.Tuple elts kk tpos) (Itk (SqT K) k0 a) [e, it] e (EnTn k0 a e it fun h it a i => h.IsTupleIter it a i) :=
  turn_enK k0 a e it (Is := fun h a its => h.IsTuple a its) (fun h i ⟨o, h1, _, h3⟩ => ⟨o, h1, fun v q => by rw [h3] at q; cases q⟩) (fun h h' i hl k => hl.at k)
    (fun A hh hne its => Draws.tuple hh it a hne its) (fun X pins s σ H xs hK I hq => by subst hK; obtain ⟨its, rv, p, _⟩ := I.tuple hq; exact ⟨its, rv, p⟩)
    (fun X pins s σ H xs ys hK I h1 h2 => by subst hK; exact I.tuple_inj h1 h2)
section
variable {M : Model} {A : Around} {E : Value → Shared → Prop} {s : Shared} {env : Env}
theorem callWith_tyK {pos : Pos} {T : String} {e : Expr} {kws : List Keyword} {Q : Value → Shared → Prop}
    (h : wpAny M A (spliced (backTo pos (starEach [e] env))) (fun vs s1 => wpAny M A (evalAll ((backToKw pos (keywordEach kws env)).map (·.2)))
      (fun kvs s2 => wpAny M A (call (.type T) vs (((backToKw pos (keywordEach kws env)).filterMap (·.1)).zip kvs)) Q E s2) E s1) E s)
    (he : backTo pos (starEach [e] env) = [(false, eval e env)] := by rfl)
    (hall : (backToKw pos (keywordEach kws env)).all (·.1.isSome) = true := by rfl) (hkw : (backToKw pos (keywordEach kws env)).any (·.1.isNone) = false := by rfl) :
    wpAny M A (callWith pos (.type T) [] (backTo pos (starEach [e] env)) (backToKw pos (keywordEach kws env))) Q E s := by
  rw [he] at h ⊢
  have h2 := evalArgs_kwB (f := .type T) (Q := fun a s1 => wpAny M A (call (.type T) ([] ++ a.pos) a.kw) Q E s1) hall h
  unfold callWith
  refine wpAny_bind (wpAny_holding (wpAny_mono h2 (fun a s1 h3 => wpAny_bind (wpAny_standAt ?_)) fun _ _ x => x))
  have hz : ([(false, eval e env)] : List (Bool × Sem Value)).any (·.1) = false := rfl
  simp only [hz, hkw, Bool.or_false]
  refine wpAny_bind (wpAny_pure ?_)
  exact wpAny_bind (wpAny_mono h3 (fun r s3 hr => wpAny_bind (wpAny_holding (wpAny_point (wpAny_pure hr)))) fun _ _ x => x)
end
def EnO (K : PySem.W.Frag) (k0 : Int) (a : Addr) (R : It → Hp → Prop) (H1 : Hp) : Prop := ∃ xs, (SqL K H1 a xs ∧ R (Itk (SqL K) k0 a) H1) ∨ (SqT K H1 a xs ∧ R (Itk (SqT K) k0 a) H1)
def EnS (K : PySem.W.Frag) (vs : List V) (R : It → Hp → Prop) (zs : List V) (H2 : Hp) : Prop := ∃ a k0, vs = [.ref a] ∧ zs = [.int k0] ∧ (-(2 ^ 63) ≤ k0 ∧ k0 < 2 ^ 63) ∧ EnO K k0 a R H2
def iEnS (K : PySem.W.Frag) (ta tk : TA) : TI := fun σ H R => ta σ H fun vs H1 => tk σ H1 fun zs H2 => EnS K vs R zs H2
def EnX (K : PySem.W.Frag) (vs : List V) (R : It → Hp → Prop) (H2 : Hp) : Prop := ∃ a, vs = [.ref a] ∧ EnO K 0 a R H2
def iEnX (K : PySem.W.Frag) (ta : TA) : TI := fun σ H R => ta σ H fun vs H1 => EnX K vs R H1
section
variable {X : Cx} {e : Expr} {kws : List Keyword} {ta tk : TA} {p pos tpos : Pos} {elts : List Expr} {kk : Nat}
theorem en_go {tg : Expr} {pins : List (Addr × Obj)} {σ : St} {H1 : Hp} {R : It → Hp → Prop} {s1 : Shared} {k0 : Int} {a : Addr} {o : Obj} {Li : Heap → Addr → Addr → Nat → Prop} {Sq : Hp → Addr → List V → Prop} (I1 : Inv X pins σ H1 s1) (hq : R (Itk Sq k0 a) H1) (ha : a < s1.heap.objs.size)
    (ht : Turn X.prog X.w X.K tg (Itk Sq k0 a) [s1.heap.objs.size + 1, s1.heap.objs.size] (s1.heap.objs.size + 1) (EnTn k0 a (s1.heap.objs.size + 1) s1.heap.objs.size Li))
    (hl : ∀ h' : Heap, h'.get? s1.heap.objs.size = some o → Li h' s1.heap.objs.size a 0)
    (h' : Heap) (he : IsEnum h' (s1.heap.objs.size + 1) s1.heap.objs.size k0 .none) (hg : h'.get? s1.heap.objs.size = some o) (hk : ∀ b o, s1.heap.get? b = some o → h'.get? b = some o) :
    wpAny (model X.prog X.w) X.A (pyIter (.ref (s1.heap.objs.size + 1))) (PIE X pins σ tg R) X.xe { s1 with heap := h' } := by
  have I2 : Inv X pins σ H1 { s1 with heap := h' } := I1.kept (t' := s1.toks) hk
  refine wpAny_pyIter_enum he ⟨s1.heap.objs.size + 1, [s1.heap.objs.size + 1, s1.heap.objs.size], _, _, H1, rfl, I2, ht, ⟨⟨.none, ?_⟩, hl h' hg, Nat.succ_ne_self _, Nat.ne_of_lt ha, Nat.ne_of_gt (Nat.lt_succ_of_lt ha)⟩, fun b hb => ?_, hq⟩
  · rw [show k0 + ((0 : Nat) : Int) = k0 by omega]; exact he
  · have hle : s1.heap.objs.size ≤ b := by
      rcases List.mem_cons.mp hb with z | z
      · rw [z]; exact Nat.le_succ _
      · rw [List.mem_singleton.mp z]; exact Nat.le_refl _
    exact I1.fpOk hle (I1.hok.fresh hle)
/-- enumerate(xs, start=k) -/
theorem pi_enumS (hg : Gl X "enumerate") (hm : X.mg "enumerate" = none) (ha : PA X [e] ta) (hk : PK X kws tk) (hb : backTo pos (starEach [e] X.env) = [(false, eval e X.env)] := by rfl)
    (hall : (backToKw pos (keywordEach kws X.env)).all (·.1.isSome) = true := by rfl) (hno : (backToKw pos (keywordEach kws X.env)).any (·.1.isNone) = false := by rfl) (hks : (backToKw pos (keywordEach kws X.env)).filterMap (·.1) = [Str.ofString "start"] := by rfl) :
    PI X (.Tuple elts kk tpos) (.Call (.Name "enumerate" p) [e] kws pos) (iEnS X.K ta tk) := by
  refine ⟨fun pins s σ H R I h => ?_⟩
  refine wpAny_Call_Name_kw (ld_blt I hg hm boot_enumerate ?_)
  refine callWith_tyK (thn (ha.run pos pins s σ H _ I h) fun us s1 ⟨vs, H1, I1, r1, q1⟩ => thn (hk.run pos pins s1 σ H1 _ I1 q1) fun ws s2 ⟨zs, H2, I2, r2, a, k0, ea, ek, hk0, xs, q2⟩ => ?_) hb hall hno
  subst ea ek
  obtain rfl := Vals.ref1 r1
  obtain ⟨w1, rfl, t, rfl⟩ := vals1 r2
  rw [hks]
  rcases q2 with ⟨hq, q⟩ | ⟨hq, q⟩
  · obtain ⟨its, rv, p', _⟩ := I2.list hq
    exact enum_begins_start (begins_list a its.toArray) p'.isList hk0.1 hk0.2 fun h' he hg' _ hk' => en_go I2 q p'.lt (turn_enL k0 a _ _) (fun h' e' => ⟨_, e', rfl, rfl⟩) h' he hg' hk'
  · obtain ⟨its, rv, p', _⟩ := I2.tuple hq
    obtain ⟨o1, ho1, _⟩ := id p'
    exact enum_begins_start (begins_tuple a its.toArray) p' hk0.1 hk0.2 fun h' he hg' _ hk' => en_go I2 q (Heap.lt_size ho1) (turn_enT k0 a _ _) (fun h' e' => ⟨_, e', rfl, rfl⟩) h' he hg' hk'
set_option maxHeartbeats 1000000 in
theorem meets_en1 {v : Value} {o : Obj} {H : Heap → Prop} (B : Begins v o H) :
    Meets (Builtin.«enumerate.__new__» ⟨[.type "enumerate", v], []⟩) (fun _ R s => H s.heap ∧
      R (.ok (.ret (.ref (s.heap.push o).objs.size))) { s with heap := (s.heap.push o).push { cls := .type "enumerate", data := .fields #[.none, .bool false, .ref s.heap.objs.size, rawInt 0, .none, .none] } }) :=
  .of_wp fun prog w A R s ⟨h1, h⟩ => by
    obtain ⟨hp, g, d, tk, os⟩ := s
    have su := sub_enumerate
    have q1 : ∀ {A' : Around} {E' : Value → Shared → Prop} {Q' : Value → Shared → Prop}, Q' (.ref hp.objs.size) ⟨hp.push o, g, d, tk, os⟩ → wpAny (model prog w) A' (pyIter v) Q' E' ⟨hp, g, d, tk, os⟩ :=
      fun q => B.iter prog w _ _ ⟨hp, g, d, tk, os⟩ _ h1 q
    wp_walk using q1
    refine wpAny_stack_any fun st => wpAny_pure ?_
    split
    · rename_i c _ _ _ _ _
      cases (c == Value.type "enumerate") <;> (wp_walk using q1; exact ⟨_, rfl, h⟩)
    · wp_walk using q1
      exact ⟨_, rfl, h⟩
theorem enum_begins1 {prog : Program} {w : World} {A : Around} {E : Value → Shared → Prop} {s : Shared} {v : Value} {o : Obj} {H : Heap → Prop} {Q : Value → Shared → Prop} (B : Begins v o H) (h1 : H s.heap)
    (h : ∀ h', IsEnum h' (s.heap.objs.size + 1) s.heap.objs.size 0 .none → h'.get? s.heap.objs.size = some o → (∀ b o, s.heap.get? b = some o → h'.get? b = some o) → Q (.ref (s.heap.objs.size + 1)) { s with heap := h' }) :
    wpAny (model prog w) A (call (.type "enumerate") [v]) Q E s := by
  refine callType_new F.called_enumerate (by decide) (F.typeCall_enumerate_1 _) (F.newCall_enumerate_1 _) (fun obj => F.args_object_init_2 obj _) F.entry_enumerate_new (meets_en1 B) ⟨h1, ?_⟩
  have hz : (s.heap.push o).objs.size = s.heap.objs.size + 1 := Heap.size_push ..
  have he := Heap.get?_push_size (s.heap.push o) (o := { cls := .type "enumerate", data := .fields #[.none, .bool false, .ref s.heap.objs.size, rawInt 0, .none, .none] }) rfl
  show _ ∧ _
  rw [hz] at he ⊢
  exact ⟨⟨_, he, rfl⟩, h _ he (Heap.get?_push_of_some _ (Heap.get?_push_size _ B.free)) fun b o x => Heap.get?_push_of_some _ (Heap.get?_push_of_some _ x)⟩
/-- enumerate(xs) of a list or a tuple -/
theorem pi_enumX (hg : Gl X "enumerate") (hm : X.mg "enumerate" = none) (ha : PA X [e] ta) (hs : starEach [e] X.env = [(false, eval e X.env)] := by rfl) :
    PI X (.Tuple elts kk tpos) (.Call (.Name "enumerate" p) [e] [] pos) (iEnX X.K ta) := by
  refine ⟨fun pins s σ H R I h => ?_⟩
  refine Call_ (ld_blt I hg hm boot_enumerate (PyProof.Rows.callWith_type1 (thn (ha.run pos pins s σ H _ I h) fun us s2 ⟨vs, H2, I2, r1, a, ea, xs, q2⟩ => ?_) hs rfl))
  subst ea
  obtain rfl := Vals.ref1 r1
  rcases q2 with ⟨hq, q⟩ | ⟨hq, q⟩
  · obtain ⟨its, rv, p', _⟩ := I2.list hq
    exact enum_begins1 (begins_list a its.toArray) p'.isList fun h' he hg' hk' => en_go I2 q p'.lt (turn_enL 0 a _ _) (fun h' e' => ⟨_, e', rfl, rfl⟩) h' he hg' hk'
  · obtain ⟨its, rv, p', _⟩ := I2.tuple hq
    obtain ⟨o1, ho1, _⟩ := id p'
    exact enum_begins1 (begins_tuple a its.toArray) p' fun h' he hg' hk' => en_go I2 q (Heap.lt_size ho1) (turn_enT 0 a _ _) (fun h' e' => ⟨_, e', rfl, rfl⟩) h' he hg' hk'
/-! ### the walk -/
theorem go_enumS {σ : St} {H : Hp} {R : It → Hp → Prop} {K : PySem.W.Frag} (h : ta σ H fun vs H1 => tk σ H1 fun zs H2 => EnS K vs R zs H2) : iEnS K ta tk σ H R := h
theorem go_enumX {σ : St} {H : Hp} {R : It → Hp → Prop} {K : PySem.W.Frag} (h : ta σ H fun vs H1 => EnX K vs R H1) : iEnX K ta σ H R := h
theorem go_enSL {H : Hp} {R : It → Hp → Prop} {K : PySem.W.Frag} {a : Addr} {k0 : Int} {xs : List V} (hs : SqL K H a xs) (hk : -100000 ≤ k0 ∧ k0 ≤ 100000) (h : R (Itk (SqL K) k0 a) H) : EnS K [.ref a] R [.int k0] H := ⟨a, k0, rfl, rfl, ⟨by omega, by omega⟩, xs, .inl ⟨hs, h⟩⟩
theorem go_enXL {H : Hp} {R : It → Hp → Prop} {K : PySem.W.Frag} {a : Addr} {xs : List V} (hs : SqL K H a xs) (h : R (Itk (SqL K) 0 a) H) : EnX K [.ref a] R H := ⟨a, rfl, xs, .inl ⟨hs, h⟩⟩
theorem go_enXT {H : Hp} {R : It → Hp → Prop} {K : PySem.W.Frag} {a : Addr} {xs : List V} (hs : SqT K H a xs) (h : R (Itk (SqT K) 0 a) H) : EnX K [.ref a] R H := ⟨a, rfl, xs, .inr ⟨hs, h⟩⟩
theorem walk_en {Sq : Hp → Addr → List V → Prop} {k0 : Int} {a : Addr} {xs : List V} : Walk (Itk Sq k0 a) xs.length (fun H => Sq H a xs) (YPair (fun i => some (.int (k0 + (i : Nat)))) (fun i => xs[i]?)) :=
  ⟨fun i _ hi q => ⟨xs, xs[i], q, List.getElem?_eq_getElem hi⟩, fun _ q => ⟨xs, q, rfl⟩, fun i H v H' _ q ⟨T, x, h1, h2, h3, h4⟩ => ⟨T, .int (k0 + (i : Nat)), x, h1, h2, h3, rfl, h4 xs q⟩⟩
end
end L2.A


namespace L2.A
open PySem PySem.Spec PyProof.Rows
open TL (tl)
/-! ### words of rows, rows of texts -/
def wl (l : List Nat) : List (List Nat) := (TL.spl [32] 0 [] l).filter (fun w => !w.isEmpty)
theorem spl_app {r : List Nat} : ∀ {l acc : List Nat}, TL.spl [32] 0 acc (l ++ 32 :: r) = TL.spl [32] 0 acc l ++ TL.spl [32] 0 [] r
  | [], acc => by
    show TL.spl [32] 0 acc (32 :: r) = _
    rw [TL.spl_hit (by rfl), TL.spl_nil]; rfl
  | c :: l, acc => by
    show TL.spl [32] 0 acc (c :: (l ++ 32 :: r)) = _
    by_cases h : c = 32
    · subst h
      rw [TL.spl_hit (by rfl), TL.spl_hit (by rfl)]
      show acc :: TL.spl [32] 0 [] (l ++ 32 :: r) = acc :: TL.spl [32] 0 [] l ++ _
      rw [spl_app]; rfl
    · rw [TL.spl_miss (TL.pre_of_head _ _ h), TL.spl_miss (TL.pre_of_head _ _ h), spl_app]
theorem wl_app {l r : List Nat} : wl (l ++ 32 :: r) = wl l ++ wl r := by unfold wl; rw [spl_app, List.filter_append]
theorem wl_nil : wl [] = [] := rfl
theorem wl_one {w : List Nat} (f : 32 ∉ w) : wl w = if w = [] then [] else [w] := by
  unfold wl
  rw [TL.spl_last1 f]
  cases w <;> rfl
theorem wl_sp {l : List Nat} : wl (l ++ [32]) = wl l := by rw [wl_app, wl_nil, List.append_nil]
theorem wl_rep {l : List Nat} : ∀ n, wl (l ++ List.replicate n 32) = wl l
  | 0 => by rw [List.replicate_zero, List.append_nil]
  | n + 1 => by rw [List.replicate_succ', ← List.append_assoc, wl_sp, wl_rep n]
/-- nothing, or a blank at the end -/
def EndB (l : List Nat) : Prop := l = [] ∨ ∃ m, l = m ++ [32]
theorem EndB.rep {l : List Nat} (h : EndB l) (n : Nat) : EndB (l ++ List.replicate n 32) := by
  cases n with
  | zero => rw [List.replicate_zero, List.append_nil]; exact h
  | succ n => rw [List.replicate_succ', ← List.append_assoc]; exact .inr ⟨_, rfl⟩
theorem EndB.rep1 {l : List Nat} {n : Nat} (h : 1 ≤ n) : EndB (l ++ List.replicate n 32) := by
  obtain ⟨m, rfl⟩ : ∃ m, n = m + 1 := ⟨n - 1, by omega⟩
  rw [List.replicate_succ', ← List.append_assoc]
  exact .inr ⟨_, rfl⟩
theorem wl_snoc {l w : List Nat} (h : EndB l) (f : 32 ∉ w) : wl (l ++ w) = wl l ++ if w = [] then [] else [w] := by
  rcases h with rfl | ⟨m, rfl⟩
  · rw [List.nil_append, wl_nil, List.nil_append, wl_one f]
  · rw [List.append_assoc]
    show wl (m ++ 32 :: w) = _
    rw [wl_app, wl_sp, wl_one f]
def rwds (r : Str) : List Str := (wl (tl r)).map fun l => ⟨l.toArray⟩
theorem str_ne {w : Str} : decide (w = "") = (tl w).isEmpty := by
  have e : (Str.ofString "") = ⟨#[]⟩ := by decide +kernel
  cases h : tl w with
  | nil => exact decide_eq_true (by rw [e]; exact TL.ext_tl (by rw [h]))
  | cons c l => exact decide_eq_false (by rw [e]; intro z; rw [z] at h; cases h)
theorem split_blank (r : Str) : Txt.split r " " = (TL.spl [32] 0 [] (tl r)).map fun l => (⟨l.toArray⟩ : Str) := by
  apply TL.map_tl_inj
  have e : tl (" " : Str) = [32] := by decide +kernel
  rw [TL.split_spl r " " (by rw [e]; simp) (TL.kind_ok (by decide +kernel)), e, List.map_map]
  exact (List.map_id' _).symm
theorem split_words (r : Str) : (Txt.split r " ").filter (fun w : Str => !decide (w = ("" : Str))) = rwds r := by
  rw [split_blank, List.filter_map]
  unfold rwds wl
  congr 1
  apply List.filter_congr
  intro l _
  show (!decide ((⟨l.toArray⟩ : Str) = "")) = _
  rw [str_ne]
theorem words_nz {r w : Str} (h : w ∈ rwds r) : w ≠ ("" : Str) := by
  rw [← split_words] at h
  have := (List.mem_filter.mp h).2
  simpa using this
/-- what a text has put in: words are parts of it -/
theorem tl_blanks (n : Int) : tl (Txt.mul " " n) = List.replicate n.toNat 32 := by
  have e : (Str.ofString " ") = ⟨#[32]⟩ := by decide +kernel
  show tl (Txt.mul (Str.ofString " ") n) = _
  rw [e]
  exact mul_one_list 32 n
theorem blanks_ok {n : Int} (h0 : 0 ≤ n) (h : n ≤ 100) : MulOk " " n := by
  have l : (" " : Str).length = 1 := by decide +kernel
  refine ⟨?_, fun h1 _ => ?_, fun h1 _ => ?_⟩
  · rw [decide_eq_false (by omega), decide_eq_false (by omega)]; rfl
  · rw [l]
    have : 1 ≤ (2 ^ 63 - 1) / n := Int.le_ediv_of_mul_le (by omega) (by omega)
    omega
  · rw [l]
    unfold PySem.Builtin.Str.tooLong
    exact decide_eq_false (by unfold sizeLine; omega)
/-- rows with words, each with its number -/
def wr : Nat → List Str → List (Nat × List Str)
  | _, [] => []
  | k, r :: rs => if rwds r = [] then wr (k + 1) rs else (k, rwds r) :: wr (k + 1) rs
theorem wr_app {ys : List Str} : ∀ {k : Nat} {xs : List Str}, wr k (xs ++ ys) = wr k xs ++ wr (k + xs.length) ys
  | k, [] => rfl
  | k, x :: xs => by
    show (if rwds x = [] then wr (k + 1) (xs ++ ys) else (k, rwds x) :: wr (k + 1) (xs ++ ys)) = (if rwds x = [] then wr (k + 1) xs else (k, rwds x) :: wr (k + 1) xs) ++ _
    rw [wr_app, List.length_cons, show k + (xs.length + 1) = k + 1 + xs.length by omega]
    split <;> rfl
theorem wr_snoc {k : Nat} {xs : List Str} {r : Str} : wr k (xs ++ [r]) = wr k xs ++ if rwds r = [] then [] else [(k + xs.length, rwds r)] := by
  rw [wr_app]
  rfl
theorem wr_len {k : Nat} : ∀ {xs : List Str}, (wr k xs).length ≤ xs.length
  | [] => Nat.le_refl _
  | x :: xs => by
    show (if rwds x = [] then wr (k + 1) xs else (k, rwds x) :: wr (k + 1) xs).length ≤ xs.length + 1
    have := wr_len (k := k + 1) (xs := xs)
    split
    · omega
    · rw [List.length_cons]; omega
theorem tl_nl : tl ("\n" : Str) = [10] := by decide +kernel
theorem words_empty : rwds "" = [] := by decide +kernel
/-- a text's rows -/
theorem rows_join {rows : List Str} (h : ∀ r ∈ rows, 10 ∉ tl r) : Txt.split (Txt.join "\n" rows) "\n" = if rows = [] then [("" : Str)] else rows := by
  cases rows with
  | nil => decide +kernel
  | cons r rs => rw [if_neg (by simp)]; exact TL.split_join tl_nl (by decide +kernel) (by simp) h
theorem wr_join {rows : List Str} (h : ∀ r ∈ rows, 10 ∉ tl r) : wr 1 (Txt.split (Txt.join "\n" rows) "\n") = wr 1 rows := by
  rw [rows_join h]
  split
  · subst rows; show (if rwds "" = [] then _ else _) = _; rw [if_pos words_empty]; rfl
  · rfl
theorem join_len : ∀ {rows : List Str} {L : Nat}, (∀ r ∈ rows, r.length ≤ L) → (rows.map (·.length)).sum ≤ rows.length * L
  | [], _, _ => Nat.zero_le _
  | r :: rs, L, h => by
    rw [List.map_cons, List.sum_cons, List.length_cons, Nat.succ_mul]
    have h1 := h r (List.mem_cons_self ..)
    have h2 := join_len fun x m => h x (List.mem_cons_of_mem _ m)
    omega
theorem text_len {rows : List Str} {L : Nat} (h : ∀ r ∈ rows, r.length ≤ L) : (Txt.join "\n" rows).length ≤ rows.length * (L + 1) := by
  rw [TL.join_eq, TL.len_tl, TL.tl_join, tl_nl]
  induction rows with
  | nil => exact Nat.zero_le _
  | cons r rs ih =>
    have h1 := h r (List.mem_cons_self ..)
    have h2 := ih fun x m => h x (List.mem_cons_of_mem _ m)
    rw [TL.len_tl] at h1
    cases rs with
    | nil => show (tl r).length ≤ _; rw [List.length_cons, List.length_nil]; omega
    | cons q rs =>
      show (tl r ++ ([10] ++ TL.joinL [10] ((q :: rs).map tl))).length ≤ _
      rw [List.length_append, List.length_append, List.length_cons (a := r), Nat.succ_mul]
      show _ + (1 + _) ≤ _
      omega

/-! ### constants that are tuples -/
def tdB (K : PySem.W.Frag) (a : Addr) : Bool := match K.lookup a with
  | some o => decide (o.cls = .type "tuple") && o.dict.isNone
  | none => false
theorem tdB_ok {K : PySem.W.Frag} {a : Addr} (h : tdB K a = true) : ∃ o, K.lookup a = some o ∧ o.cls = .type "tuple" ∧ o.dict = none := by
  unfold tdB at h
  cases q : K.lookup a with
  | none => rw [q] at h; cases h
  | some o =>
    rw [q] at h
    have h2 : decide (o.cls = .type "tuple") = true ∧ o.dict.isNone = true := by simpa using h
    exact ⟨o, rfl, of_decide_eq_true h2.1, Option.isNone_iff_eq_none.mp h2.2⟩
theorem tyV_tK {K : PySem.W.Frag} {H : Hp} {p : Addr} (h : ∃ o, K.lookup p = some o ∧ o.cls = .type "tuple" ∧ o.dict = none) : tyV K "tuple" (.ref p) H := .inr (.inl ⟨rfl, h⟩)
theorem go_tix {K : PySem.W.Frag} {H : Hp} {Q : VK} {p : Addr} {ys : List Str} {z : Str} {j : Nat} (hp : SqT K H p (ys.map V.str)) (e : ys[j]? = some z) (n : ∀ m, m < j → ys[m]? ≠ some z) (h : Q (.int (j : Nat)) H) :
    ∃ p', ∃ ys' : List Str, ∃ z' j', V.ref p = .ref p' ∧ [V.str z] = [.str z'] ∧ SqT K H p' (ys'.map V.str) ∧ ys'[j']? = some z' ∧ (∀ m, m < j' → ys'[m]? ≠ some z') ∧ Q (.int (j' : Nat)) H := ⟨p, ys, z, j, rfl, rfl, hp, e, n, h⟩
theorem go_ins {H : Hp} {Q : VK} {l : Addr} {xs : List V} {i : Int} {y : V} (hl : H l = some (.lst xs)) (z : xs.length < 100000) (h0 : 0 ≤ i ∧ i < 100000) (h : Q .non (upd H l (.lst (xs.take i.toNat ++ [y] ++ xs.drop i.toNat)))) :
    ∃ (l' : Addr) (xs' : List V) (i' : Int) (y' : V), V.ref l = .ref l' ∧ [V.int i, y] = [.int i', y'] ∧ H l' = some (.lst xs') ∧ xs'.length < sizeLine ∧ 0 ≤ i' ∧ i' < 2 ^ 63 ∧ Q .non (upd H l' (.lst (xs'.take i'.toNat ++ [y'] ++ xs'.drop i'.toNat))) :=
  ⟨l, xs, i, y, rfl, rfl, hl, Nat.lt_of_lt_of_le z (by decide), h0.1, by omega, h⟩
theorem go_split2 {H : Hp} {Q : VK} {a b : Str} (h1 : (b.length == 0) = false) (h2 : a.length ≤ 1000000) (h : NewO (.lst ((Txt.split a b).map V.str)) H Q) :
    (∃ a' b', V.str a = .str a' ∧ [V.str b] = [.str b'] ∧ (b'.length == 0) = false ∧ a'.length + 2 ≤ sizeLine ∧ rNewStrs (Txt.split a' b') H Q) := ⟨a, b, rfl, rfl, h1, Nat.le_trans (show a.length + 2 ≤ 1000002 by omega) (by decide), h⟩
/-! ### zip of two lists, or of two tuples -/
def ZpA (K : PySem.W.Frag) (vs : List V) (H1 : Hp) (R : It → Hp → Prop) : Prop := ∃ a b xs ys, vs = [.ref a, .ref b] ∧ ((SqL K H1 a xs ∧ SqL K H1 b ys ∧ R (Itz K a b) H1) ∨ (SqT K H1 a xs ∧ SqT K H1 b ys ∧ R (RZ.ItzT K a b) H1))
theorem go_zipA {K : PySem.W.Frag} {σ : St} {H : Hp} {ta : TA} {R : It → Hp → Prop} (h : ta σ H fun vs H1 => ZpA K vs H1 R) : RZ.iZipA K ta σ H R := h
theorem go_zAL {K : PySem.W.Frag} {H : Hp} {a b : Addr} {xs ys : List V} {R : It → Hp → Prop} (hS : SqL K H a xs) (hT : SqL K H b ys) (h : R (Itz K a b) H) : ZpA K [.ref a, .ref b] H R := ⟨a, b, xs, ys, rfl, .inl ⟨hS, hT, h⟩⟩
theorem go_zAT {K : PySem.W.Frag} {H : Hp} {a b : Addr} {xs ys : List V} {R : It → Hp → Prop} (hS : SqT K H a xs) (hT : SqT K H b ys) (h : R (RZ.ItzT K a b) H) : ZpA K [.ref a, .ref b] H R := ⟨a, b, xs, ys, rfl, .inr ⟨hS, hT, h⟩⟩
theorem walk_zipT {K : PySem.W.Frag} {a b : Addr} {xs ys : List V} (hn : xs.length = ys.length) : Walk (RZ.ItzT K a b) xs.length (fun H => SqT K H a xs ∧ SqT K H b ys) (YPair (fun i => xs[i]?) (fun i => ys[i]?)) := by
  refine ⟨fun i _ hi q => ⟨xs, ys, xs[i], ys[i]'(by omega), q.1, q.2, List.getElem?_eq_getElem hi, List.getElem?_eq_getElem (by omega)⟩, fun _ q => ⟨xs, ys, q.1, q.2, .inl (Nat.le_refl _)⟩, fun i H v H' _ q y => ?_⟩
  obtain ⟨T, x, z, h1, h2, h3, h4, h5⟩ := y
  exact ⟨T, x, z, h1, h2, h3, h4 xs q.1, h5 ys q.2⟩
/-! ### two lists item by item -/
inductive All2 {α β : Type} (R : α → β → Prop) : List α → List β → Prop
  | nil : All2 R [] []
  | cons {a b as bs} : R a b → All2 R as bs → All2 R (a :: as) (b :: bs)
theorem All2.mono {α β : Type} {R S : α → β → Prop} (h : ∀ a b, R a b → S a b) : ∀ {as : List α} {bs : List β}, All2 R as bs → All2 S as bs
  | _, _, .nil => .nil
  | _, _, .cons x y => .cons (h _ _ x) (y.mono h)
theorem All2.snoc {α β : Type} {R : α → β → Prop} {a : α} {b : β} : ∀ {as : List α} {bs : List β}, All2 R as bs → R a b → All2 R (as ++ [a]) (bs ++ [b])
  | _, _, .nil, h => .cons h .nil
  | _, _, .cons x y, h => .cons x (y.snoc h)
theorem All2.len {α β : Type} {R : α → β → Prop} : ∀ {as : List α} {bs : List β}, All2 R as bs → as.length = bs.length
  | _, _, .nil => rfl
  | _, _, .cons _ y => by rw [List.length_cons, List.length_cons, y.len]
theorem All2.at {α β : Type} {R : α → β → Prop} {a : α} : ∀ {as : List α} {bs : List β} {i : Nat}, All2 R as bs → as[i]? = some a → ∃ b, bs[i]? = some b ∧ R a b
  | _, _, 0, .cons x _, h => by cases h; exact ⟨_, rfl, x⟩
  | _, _, i + 1, .cons _ y, h => y.at (i := i) h
theorem kit_nl : kitB "NoneType" "list" = some false := by decide +kernel
theorem kit_il : kitB "int" "list" = some false := by decide +kernel
theorem kit_it : kitB "int" "tuple" = some false := by decide +kernel
theorem kit_sl : kitB "str" "list" = some false := by decide +kernel
theorem kit_st : kitB "str" "tuple" = some false := by decide +kernel
end L2.A


namespace L2.A
open PySem PySem.Spec PyProof.Rows
/-! ### a list taken apart -/
section
variable {prog : Program} {w : World} {A : Around} {E : Value → Shared → Prop} {s : Shared}
theorem draw_list {it t : Addr} {items : Array Value} (hne : t ≠ it) : ∀ (n i : Nat) (s : Shared) (Q : List Value → Shared → Prop), s.heap.IsListIter it t i → s.heap.IsList t items → i + n ≤ items.size →
    (∀ h', h'.IsListIter it t (i + n) → Heap.SameBut it s.heap h' → Q ((items.toList.drop i).take n) { s with heap := h' }) → wpAny (model prog w) A (draw (.ref it) n) Q E s
  | 0, i, s, Q, hit, _, _, hQ => by
    show wpAny _ _ (pure []) Q E s
    exact wpAny_pure (by simpa using hQ s.heap hit (Heap.SameBut.refl ..))
  | n + 1, i, s, Q, hit, ht, hle, hQ => by
    have hlt : i < items.size := by omega
    show wpAny _ _ (pyNext (.ref it) >>= _) Q E s
    refine wpAny_bind (wpAny_pyNext_list_item hit ht (x := items[i]) (by simp [hlt]) fun h₁ hit₁ hs₁ => ?_)
    refine wpAny_bind (wpAny_holding (draw_list hne n (i + 1) _ _ hit₁ (ht.extBut hs₁.extBut hne) (by omega) fun h₂ hit₂ hs₂ => wpAny_pure ?_))
    have hd : items.toList.drop i = items[i] :: items.toList.drop (i + 1) := by simp [List.drop_eq_getElem_cons, hlt]
    have := hQ h₂ (by rw [show i + (n + 1) = i + 1 + n by omega]; exact hit₂) (hs₁.trans hs₂)
    rw [hd, List.take_succ_cons] at this
    exact this
theorem unpackItems_list {t : Addr} {items : Array Value} {Q : List Value → Shared → Prop} (hh : A.handled = none) (ht : s.heap.IsList t items)
    (hQ : ∀ h', Heap.ExtBut s.heap.objs.size s.heap h' → Q items.toList { s with heap := h' }) : wpAny (model prog w) A (unpackItems (.ref t) items.size none) Q E s := by
  have hlt : t ≠ s.heap.objs.size := by obtain ⟨o, ho, _⟩ := ht; exact Nat.ne_of_lt (Heap.lt_size ho)
  unfold unpackItems
  refine wpAny_bind ?_
  · unfold notIterableAtAll
    refine wpAny_bind (wpAny_specialOf ht.typeIs slot_list_iter.lookup ?_)
    refine wpAny_pure ?_
    simp only [Bool.false_eq_true, if_false]
    refine wpAny_bind (wpAny_holding (wpAny_pyIter_list ht ?_))
    refine wpAny_bind (wpAny_holding (draw_list hlt items.size 0 _ _ ⟨_, Heap.get?_push_size _ rfl, rfl, rfl⟩ (ht.push _) (by omega) fun h₁ hit₁ hs₁ => ?_))
    have hall : List.take items.size (List.drop 0 items.toList) = items.toList := by
      rw [List.drop_zero]; exact List.take_of_length_le (by simp)
    rw [hall]
    rw [if_neg (by simp)]
    have ht₁ : h₁.IsList t items := (ht.push _).extBut hs₁.extBut hlt
    refine wpAny_bind (wpAny_holding (wpAny_pyNext_list_end hh hit₁ ht₁ (by simp) fun h₂ he₂ => ?_))
    simp only [Option.isSome_none, Bool.false_eq_true, if_false]
    refine wpAny_pure (hQ h₂ fun b o hb e => he₂ b o hb (hs₁.extBut b o hb (Heap.get?_push_of_some _ e)))
theorem unpack_list {t : Addr} {items : Array Value} {targets : List (Bool × (Value → Sem Unit))} {Q : Unit → Shared → Prop} (hh : A.handled = none) (ht : s.heap.IsList t items)
    (hn : targets.length = items.size) (hstar : targets.findIdx? (·.1) = none)
    (h : ∀ h', Heap.ExtBut s.heap.objs.size s.heap h' → wpAny (model prog w) A (assignInOrder (targets.map (·.2)) items.toList) Q E { s with heap := h' }) :
    wpAny (model prog w) A (unpack (.ref t) targets) Q E s := by
  unfold unpack
  rw [hn, hstar]
  exact wpAny_bind (wpAny_holding (unpackItems_list hh ht h))
theorem assign_Tuple_list {env : Env} {elts : List Expr} {x1} {pos : Pos} {t : Addr} {items : Array Value} {Q : Unit → Shared → Prop} (hh : A.handled = none) (ht : s.heap.IsList t items)
    (hn : (assignEach elts env).length = items.size) (hstar : (assignEach elts env).findIdx? (·.1) = none)
    (h : ∀ h', Heap.ExtBut s.heap.objs.size s.heap h' → wpAny (model prog w) A (assignInOrder ((assignEach elts env).map (·.2)) items.toList) Q E { s with heap := h' }) :
    wpAny (model prog w) A (assign (.Tuple elts x1 pos) env (.ref t)) Q E s := by
  rw [assign_Tuple]
  exact wpAny_bind (wpAny_standAt (unpack_list hh ht hn hstar h))
end
section
variable {X : Cx} {pos : Pos}
def gTupA (K : PySem.W.Frag) (n : Nat) (t : TGs) : TG := fun v σ H Q => ∃ a xs, v = .ref a ∧ (SqT K H a xs ∨ SqL K H a xs) ∧ xs.length = n ∧ t xs σ H Q
theorem pg_tupA {es : List Expr} {k : Nat} {t : TGs} {n : Nat} (hc : X.calm = true) (h : PGs X es t)
    (hn : (assignEach es X.env).length = n := by rfl) (hst : (assignEach es X.env).findIdx? (·.1) = none := by rfl) : PG X (.Tuple es k pos) (gTupA X.K n t) := by
  refine ⟨fun pins s σ H v u Q I r hw => ?_⟩
  obtain ⟨a, xs, e1, hq, hl, hw⟩ := hw
  subst e1
  cases r
  rcases hq with hq | hq
  · obtain ⟨its, rv, ht, hz⟩ := I.tuple hq
    refine assign_Tuple_tuple (I.ok.hd hc) ht (by simp [hn, ← hl, rv.length]) hst fun h' hx => ?_
    have I1 : Inv X pins σ H { s with heap := h' } := I.kept (t' := s.toks) fun b o e => hx b o (Nat.ne_of_lt (Heap.lt_size e)) e
    exact h.run pins _ σ H xs _ Q I1 (by simpa using rv) hw
  · obtain ⟨its, rv, ht, hz⟩ := I.list hq
    refine assign_Tuple_list (I.ok.hd hc) ht.isList (by simp [hn, ← hl, rv.length]) hst fun h' hx => ?_
    have I1 : Inv X pins σ H { s with heap := h' } := I.kept (t' := s.toks) fun b o e => hx b o (Nat.ne_of_lt (Heap.lt_size e)) e
    exact h.run pins _ σ H xs _ Q I1 (by simpa using rv) hw
theorem pg_tupAK {K : PySem.W.Frag} (hK : X.K = K) {es : List Expr} {k : Nat} {t : TGs} {n : Nat} (hc : X.calm = true) (h : PGs X es t)
    (hn : (assignEach es X.env).length = n := by rfl) (hst : (assignEach es X.env).findIdx? (·.1) = none := by rfl) : PG X (.Tuple es k pos) (gTupA K n t) := hK ▸ pg_tupA hc h hn hst
end
/-! ### methods within a comprehension, a try: the rules that name the fragment -/
section
variable {X : Cx} {K : PySem.W.Frag} {o e : Expr} {es : List Expr} {to : TE} {t : TA} {name : Str} {apos cpos : Pos} {T id : String} {r : V → List V → Hp → VK → Prop}
theorem pe_bm0K (hK : X.K = K) (pa : PlainAttrs T) (slot : Slot T name id) (hty : typeOf (.builtin id) = pure (.type "method_descriptor")) (hm : MtR X id r) (ho : PE X o to)
    (hbase : attributeBase o name X.env (eval o X.env) = eval o X.env := by rfl) (hline : (apos.endLine == cpos.line) = true := by rfl) : PE X (.Call (.Attribute o name apos) [] [] cpos) (tBM0 K T r to) := hK ▸ pe_bm0 pa slot hty hm ho hbase hline
theorem pe_bmK (hK : X.K = K) (pa : PlainAttrs T) (slot : Slot T name id) (hty : typeOf (.builtin id) = pure (.type "method_descriptor")) (hm : MtR X id r) (ho : PE X o to) (ha : PA X (e :: es) t)
    (hbase : attributeBase o name X.env (eval o X.env) = eval o X.env := by rfl)
    (hfew : ((backTo cpos (starEach (e :: es) X.env)).all (fun x => !x.1) && (backToKw cpos (keywordEach [] X.env)).all (fun x => x.1.isSome)
      && decide ((e :: es).length + ([] : List Keyword).length + (if ([] : List Keyword).isEmpty then 0 else 1) < 30)) = true := by rfl)
    (hline : (apos.endLine == cpos.line) = true := by rfl) (hs : starEach (e :: es) X.env = (false, eval e X.env) :: starEach es X.env := by rfl) (hplain : (backTo cpos (starEach es X.env)).any (·.1) = false := by rfl) :
    PE X (.Call (.Attribute o name apos) (e :: es) [] cpos) (tBM K T r to t) := hK ▸ pe_bm pa slot hty hm ho ha hbase hfew hline hs hplain
theorem mt_joinK (hK : X.K = K) : MtR X "str.join" (fun x xs H Q => ∃ a p, ∃ ys : List Str, x = .str a ∧ xs = [.ref p] ∧ (SqL K H p (ys.map V.str) ∨ SqT K H p (ys.map V.str)) ∧
    (ys.map (·.length)).sum + ys.length * a.length ≤ 16777216 ∧ Q (.str (Txt.join a ys)) H) := hK ▸ mt_join
theorem mt_tup_indexK (hK : X.K = K) : MtR X "tuple.index" (fun x xs H Q => ∃ p, ∃ ys : List Str, ∃ z j, x = .ref p ∧ xs = [.str z] ∧ SqT K H p (ys.map V.str) ∧ ys[j]? = some z ∧ (∀ m, m < j → ys[m]? ≠ some z) ∧ Q (.int (j : Nat)) H) := hK ▸ mt_tup_index
theorem mt_indexK (hK : X.K = K) : MtR X "list.index" (rIndex K) := hK ▸ mt_index
end
theorem go_gtupT {K : PySem.W.Frag} {H : Hp} {σ : St} {QS : St → Hp → Prop} {n : Nat} {tg : TGs} {a : Addr} {xs : List V} (hs : SqT K H a xs) (hl : xs.length = n) (h : tg xs σ H QS) : gTupA K n tg (.ref a) σ H QS := ⟨a, xs, rfl, .inl hs, hl, h⟩
theorem go_gtupL {K : PySem.W.Frag} {H : Hp} {σ : St} {QS : St → Hp → Prop} {n : Nat} {tg : TGs} {a : Addr} {xs : List V} (hs : SqL K H a xs) (hl : xs.length = n) (h : tg xs σ H QS) : gTupA K n tg (.ref a) σ H QS := ⟨a, xs, rfl, .inr hs, hl, h⟩
end L2.A


namespace L2.A
open PySem PySem.Spec PyProof.Rows
/-! ### what stands still (F), what is alive (L) -/
structure Sta (F : Hp) (L : Cells) (H : Hp) : Prop where
  fz : Same F H
  lay : Lay L H
  off : ∀ a ∈ L.map Prod.fst, F a = none
section
variable {F F' : Hp} {L L' B B' R : Cells} {H H' : Hp} {a p : Addr} {o o' : HO} {xs : List V}
theorem Sta.of (st : Sta F L H) (e : F p = some o) : H p = some o := st.fz _ _ e
theorem Sta.get (st : Sta F L H) (m : (p, o) ∈ L) : H p = some o := st.lay.get m
theorem Sta.nil : Sta H [] H := ⟨.refl _, .nil, fun _ m => nomatch m⟩
theorem Sta.same (st : Sta F L H) (s : Same H H') : Sta F L H' := ⟨st.fz.trans s, st.lay.same s, st.off⟩
theorem Sta.perm (st : Sta F L H) (p : L.Perm L') : Sta F L' H := ⟨st.fz, st.lay.perm p, fun a m => st.off a ((p.map Prod.fst).mem_iff.mpr m)⟩
theorem Sta.left (st : Sta F (B ++ R) H) : Sta F B H := ⟨st.fz, st.lay.left, fun a m => st.off a (by rw [List.map_append]; exact List.mem_append_left _ m)⟩
theorem Sta.pull (st : Sta F L H) (p : L.Perm (B ++ R)) : Sta F B H := (st.perm p).left
theorem Sta.free (st : Sta F L H) (n : H p = none) : F p = none := st.fz.free n
theorem Sta.newF (st : Sta F L H) (n : H p = none) (s : Same H H') (e : H' p = some o) : ∃ F', Same F F' ∧ F' p = some o ∧ Sta F' L H' := by
  refine ⟨upd F p o, same_new (st.free n), upd_same, fun b u q => ?_, st.lay.same s, fun b m => ?_⟩
  · by_cases z : b = p
    · subst z; rw [upd_same] at q; cases q; exact e
    · rw [upd_ne z] at q; exact s _ _ (st.fz _ _ q)
  · rw [upd_ne (fun z => st.lay.free n (by rw [← z]; exact m))]; exact st.off b m
theorem Sta.newL (st : Sta F L H) (n : H p = none) (s : Same H H') (e : H' p = some o) (m : isMutB o = true) : Sta F ((p, o) :: L) H' :=
  ⟨st.fz.trans s, (st.lay.same s).cons (st.lay.free n) e m, fun b q => by
    rcases List.mem_cons.mp q with rfl | q
    · exact st.free n
    · exact st.off b q⟩
theorem Sta.put (st : Sta F L H) (p : L.Perm ((a, o) :: R)) (m : isMutB o' = true) : Sta F ((a, o') :: R) (upd H a o') := by
  have x := Ext.put (Ext.refl st.lay) p m
  have st' := st.perm p
  refine ⟨fun b u q => ?_, x.lay, fun b q => st'.off b q⟩
  rw [upd_ne (fun z => by rw [z, st'.off a (List.mem_cons_self ..)] at q; cases q)]
  exact st.fz _ _ q
theorem Sta.freeze (st : Sta F L H) (p : L.Perm ((a, o) :: R)) : ∃ F', Same F F' ∧ F' a = some o ∧ Sta F' R H := by
  have st' := st.perm p
  have fa := st'.off a (List.mem_cons_self ..)
  have nd := st'.lay.nd
  rw [List.map_cons, List.nodup_cons] at nd
  refine ⟨upd F a o, same_new fa, upd_same, fun b u q => ?_, ⟨nd.2, fun c m => st'.lay.has c (List.mem_cons_of_mem _ m), fun c m => st'.lay.mt c (List.mem_cons_of_mem _ m)⟩, fun b m => ?_⟩
  · by_cases z : b = a
    · subst z; rw [upd_same] at q; cases q; exact st'.lay.has _ (List.mem_cons_self ..)
    · rw [upd_ne z] at q; exact st.fz _ _ q
  · rw [upd_ne (fun z => nd.1 (by rw [← z]; exact m))]; exact st'.off b (List.mem_cons_of_mem _ m)
theorem Sta.ext (st : Sta F (B ++ R) H) (x : Ext B B' H H') : Sta F (B' ++ R) H' := by
  have y := Ext.frame st.lay x
  refine ⟨fun b u q => y.kp b u (st.fz _ _ q) (fun m => by rw [st.off b m] at q; cases q), y.lay, fun b m => ?_⟩
  rcases y.new b m with z | z
  · exact st.off b z
  · exact st.free z
theorem Sta.call (st : Sta F L H) (p : L.Perm (B ++ R)) (x : Ext B B' H H') : Sta F (B' ++ R) H' := (st.perm p).ext x
/-- what may change under the name p alone -/
theorem Sta.kp1 (st : Sta F ((a, o) :: R) H) (k : Kp (fun b => b = a) H H') (e : H' a = some o') (m : isMutB o' = true) : Sta F ((a, o') :: R) H' := by
  have nd := st.lay.nd
  rw [List.map_cons, List.nodup_cons] at nd
  have fa := st.off a (List.mem_cons_self ..)
  refine ⟨fun b u q => k _ _ (st.fz _ _ q) (fun z => by rw [z, fa] at q; cases q), ⟨st.lay.nd, fun c q => ?_, fun c q => ?_⟩, fun b q => st.off b q⟩
  · rcases List.mem_cons.mp q with rfl | q
    · exact e
    · exact k _ _ (st.lay.has c (List.mem_cons_of_mem _ q)) (fun z => nd.1 (by have z2 : c.1 = a := z; rw [show (a, o).fst = c.1 from z2.symm]; exact List.mem_map_of_mem q))
  · rcases List.mem_cons.mp q with rfl | q
    · exact m
    · exact st.lay.mt c (List.mem_cons_of_mem _ q)
theorem Sta.seqL {K : PySem.W.Frag} (st : Sta F L H) (h : SqL K F a xs) : SqL K H a xs := seqL_same h st.fz
theorem Sta.seqT {K : PySem.W.Frag} (st : Sta F L H) (h : SqT K F a xs) : SqT K H a xs := seqT_same h st.fz
theorem Sta.dp {K : PySem.W.Frag} {v : V} {d : PyData} (st : Sta F L H) (h : Dp K F v d) : Dp K H v d := Dp.same st.fz d v h
theorem Sta.nof (st : Sta F L H) (e : F p = some o) : p ∉ L.map Prod.fst := fun m => by rw [st.off p m] at e; cases e
end
section
variable {K : PySem.W.Frag} {f : Str} {y z v : V} {D : Ends} {σ : St} {Q : VK} {QS : St → Hp → Prop} {QH : Hp → Prop} {a C dx l : Addr} {fs fs' : List (Str × V)} {F : Hp} {L R : Cells} {H : Hp} {xs ys : List V} {o : HO}
/-! #### steps: new objects, stores -/
theorem go_newF (st : Sta F L H) (h : ∀ p F' H', Same F F' → F' p = some o → Sta F' L H' → Q (.ref p) H') : NewO o H Q := fun p hp => by
  obtain ⟨F', s, e, st'⟩ := st.newF hp (same_new hp) upd_same
  exact h p F' _ s e st'
theorem go_newLv (st : Sta F L H) (m : isMutB o = true) (h : ∀ p H', Sta F ((p, o) :: L) H' → Q (.ref p) H') : NewO o H Q := fun p hp => h p _ (st.newL hp (same_new hp) upd_same m)
theorem go_sfldS (st : Sta F L H) (p : L.Perm ((a, .ins C dx fs) :: R)) (c : Cls K C) (n : NoAttr K C f) (s : Nat.ble fs.length 900 = true) (e : putF f y fs = fs')
    (h : ∀ H', Sta F ((a, .ins C dx fs') :: R) H' → D.nx σ H') : SFldW K f y D σ (.ref a) H :=
  go_sfldW ((st.perm p).get (.head _)) c n s e (h _ (st.put p rfl))
theorem go_gfldS (st : Sta F L H) (p : L.Perm ((a, .ins C dx fs) :: R)) (c : Cls K C) (n : NoAttr K C f) (s : Nat.ble fs.length 900 = true) (e : putF f v fs = fs')
    (h : ∀ H', Sta F ((a, .ins C dx fs') :: R) H' → QS σ H') : GFldW K f v σ (.ref a) H QS :=
  go_gfldW ((st.perm p).get (.head _)) c n s e (h _ (st.put p rfl))
theorem go_astS (st : Sta F L H) (p : L.Perm ((a, .ins C dx fs) :: R)) (s : Nat.ble fs.length 900 = true) (e : putF f z fs = fs')
    (h : ∀ H', Sta F ((a, .ins C dx fs') :: R) H' → D.nx σ H') : AStW C f a D σ z H :=
  go_astW ((st.perm p).get (.head _)) s e (h _ (st.put p rfl))
theorem go_sLS {j : Int} {n : Nat} (st : Sta F L H) (p : L.Perm ((l, .lst xs) :: R)) (hj : ixN xs.length j = some n) (h : ∀ H', Sta F ((l, .lst (xs.set n v)) :: R) H' → QH H') : rSetX (.ref l) (.int j) v H QH :=
  go_sL ((st.perm p).get (.head _)) hj (h _ (st.put p rfl))
theorem go_appendS (st : Sta F L H) (p : L.Perm ((l, .lst xs) :: R)) (s : xs.length < 100000) (h : ∀ H', Sta F ((l, .lst (xs ++ [y])) :: R) H' → Q .non H') : rAppend (.ref l) [y] H Q :=
  go_append ((st.perm p).get (.head _)) s (h _ (st.put p rfl))
theorem go_extendS {q : Addr} (st : Sta F L H) (p : L.Perm ((l, .lst xs) :: R)) (e : H q = some (.lst ys)) (s : xs.length + ys.length < 100000) (h : ∀ H', Sta F ((l, .lst (xs ++ ys)) :: R) H' → Q .non H') : rExtend (.ref l) [.ref q] H Q :=
  ⟨l, q, xs, ys, rfl, rfl, (st.perm p).get (.head _), e, Nat.le_of_lt (Nat.lt_of_lt_of_le s (by decide)), h _ (st.put p rfl)⟩
theorem go_sSS {zs : List Str} {k : Str} (st : Sta F L H) (p : L.Perm ((l, setO zs) :: R)) (s : zs.length ≤ 10000) (h : ∀ H', Sta F ((l, setO (addS zs k)) :: R) H' → QH H') : rSetX (.ref l) (.str k) (.bl true) H QH :=
  go_sS ((st.perm p).get (.head _)) s (h _ (st.put p rfl))
theorem go_sCS {ks : List (Str × Int)} {k : Str} {n : Int} (st : Sta F L H) (p : L.Perm ((l, cntO ks) :: R)) (s : ks.length ≤ 10000) (h : ∀ H', Sta F ((l, cntO (cntP ks k n)) :: R) H' → QH H') : rSetX (.ref l) (.str k) (.int n) H QH :=
  go_sC ((st.perm p).get (.head _)) s (h _ (st.put p rfl))
theorem go_sKS {kvs kvs' : List (Key × V)} {k : Str} (st : Sta F L H) (p : L.Perm ((l, .dK kvs) :: R)) (s : Nat.ble kvs.length 1000 = true) (e : putK kvs (Sum.inr k) v = kvs') (h : ∀ H', Sta F ((l, .dK kvs') :: R) H' → QH H') : rSetX (.ref l) (.str k) v H QH :=
  go_sKs ((st.perm p).get (.head _)) (Nat.lt_of_le_of_lt (Nat.le_of_ble_eq_true s) (by decide)) (by rw [e]; exact h _ (st.put p rfl))
end
/-! #### comprehensions, loops -/
section
variable {K : PySem.W.Frag} {σ : St} {H : Hp} {D : Ends} {Q : VK} {J : It} {n : Nat} {G : Hp → Prop} {Y : Nat → Hp → V → Hp → Prop} {F : Hp} {L : Cells}
/-- a comprehension: R i ys F L what holds of the items made so far -/
theorem LcW.sta (w : Walk J n G Y) {g : TG} {tt : TT} {te : TE} {vs : List Nat} (R : Nat → List V → Hp → Cells → Prop) (hz : n ≤ 100000) (st : Sta F L H) (h0 : R 0 [] F L)
    (hG : ∀ i ys F L H, i ≤ n → Sta F L H → R i ys F L → G H)
    (hs : ∀ (A : Addr) i x ys F L H H', i < n → ys.length ≤ i → Sta F ((A, .lst ys) :: L) H → R i ys F L → Y i H x H' → ∀ (yes : V → Hp → Prop) (no : Hp → Prop),
      (∀ y F' L' H'', Sta F' ((A, .lst ys) :: L') H'' → R (i + 1) (ys ++ [y]) F' L' → yes y H'') → (∀ F' L' H'', Sta F' ((A, .lst ys) :: L') H'' → R (i + 1) ys F' L' → no H'') →
      g x (wipe σ vs) H' fun σ2 H2 => wipe σ2 vs = wipe σ vs ∧ tt σ2 H2 fun b H3 => if b = true then te σ2 H3 yes else no H3)
    (hd : ∀ (A : Addr) ys F L H', Sta F ((A, .lst ys) :: L) H' → ys.length ≤ n → R n ys F L → Q (.ref A) H') : LcW J g tt te vs σ H Q := by
  refine LcW.it w (fun A i ys H' => ∃ F L, Sta F ((A, .lst ys) :: L) H' ∧ R i ys F L) hz (fun A hA => ⟨F, L, st.newL hA (same_new hA) upd_same rfl, h0⟩) (fun A i ys H' _ hi _ ⟨F, L, st, r⟩ => hG i ys F L H' hi ⟨st.fz, st.lay.right (L := [(A, .lst ys)]), fun b m => st.off b (List.mem_cons_of_mem _ m)⟩ r) ?_ ?_
  · rintro A i x ys H1 H2 hA hi hl e ⟨F, L, st, r⟩ y yes no hy hn
    refine hs A i x ys F L H1 H2 hi hl st r y yes no (fun z F' L' H'' st' r' => hy z H'' (st'.get (.head _)) ⟨F', L', st'.put .rfl rfl, r'⟩) fun F' L' H'' st' r' => hn H'' (st'.get (.head _)) ⟨F', L', st', r'⟩
  · rintro A ys H' hA e hl ⟨F, L, st, r⟩
    exact hd A ys F L H' st hl r
theorem Sta.tail {c : Addr × HO} (st : Sta F (c :: L) H) : Sta F L H := ⟨st.fz, st.lay.right (L := [c]), fun b m => st.off b (List.mem_cons_of_mem _ m)⟩
end
end L2.A

namespace L2.A
open PySem PySem.Spec PyProof.Rows
theorem inv2 {k a b : Str} : inV (.str k) [.str a, .str b] = (decide (k = a) || decide (k = b)) := by
  simp [inV, eqV, Bool.beq_eq_decide_eq, eq_comm]
theorem inv3 {k a b c : Str} : inV (.str k) [.str a, .str b, .str c] = (decide (k = a) || (decide (k = b) || decide (k = c))) := by
  simp [inV, eqV, Bool.beq_eq_decide_eq, eq_comm]
theorem inv_ss {a : Str} {zs : List Str} : inV (.str a) (zs.map V.str) = decide (a ∈ zs) := by
  unfold inV
  rw [List.any_map]
  by_cases h : a ∈ zs
  · rw [decide_eq_true h, List.any_eq_true]
    exact ⟨a, h, by simp [eqV]⟩
  · rw [decide_eq_false h, List.any_eq_false]
    intro z m
    have : z ≠ a := fun e => h (e ▸ m)
    simpa [eqV, Bool.beq_eq_decide_eq] using this
/-- everything but what is alive stands still -/
theorem Sta.full {F : Hp} {L : Cells} {H : Hp} (st : Sta F L H) : ∃ G, Same F G ∧ Sta G L H ∧ ∀ a o, H a = some o → a ∉ L.map Prod.fst → G a = some o := by
  classical
  refine ⟨fun a => if a ∈ L.map Prod.fst then none else H a, fun a o e => ?_, ⟨fun a o e => ?_, st.lay, fun a m => ?_⟩, fun a o e m => ?_⟩
  · show (if a ∈ L.map Prod.fst then none else H a) = _
    rw [if_neg (st.nof e)]; exact st.fz _ _ e
  · have e : (if a ∈ L.map Prod.fst then none else H a) = some o := e
    split at e
    · cases e
    · exact e
  · show (if a ∈ L.map Prod.fst then none else H a) = _
    rw [if_pos m]
  · show (if a ∈ L.map Prod.fst then none else H a) = _
    rw [if_neg m]; exact e
/-- what a call lays anew beside what is alive -/
theorem Sta.merge {F G : Hp} {R B : Cells} {H H' : Hp} (st : Sta F R H) (s : Same H G) (sb : Sta G B H') : ∃ F', Same F F' ∧ Sta F' (B ++ R) H' ∧ ∀ a o, G a = some o → (isMutB o = false ∨ H a = none) → F' a = some o := by
  classical
  have inR : ∀ a o, G a = some o → a ∈ R.map Prod.fst → isMutB o = true ∧ H a = some o := fun a o e m => by
    obtain ⟨c, mc, rfl⟩ := List.mem_map.mp m
    have h1 := st.lay.has c mc
    have h2 := s _ _ h1
    rw [e] at h2
    cases h2
    exact ⟨st.lay.mt c mc, h1⟩
  have dis : ∀ a, a ∈ B.map Prod.fst → a ∉ R.map Prod.fst := fun a mb mr => by
    have h0 := sb.off a mb
    obtain ⟨c, mc, rfl⟩ := List.mem_map.mp mr
    rw [s _ _ (st.lay.has c mc)] at h0
    cases h0
  refine ⟨fun a => if a ∈ R.map Prod.fst then none else G a, fun a o e => ?_, ⟨fun a o e => ?_, ⟨?_, fun c m => ?_, fun c m => ?_⟩, fun a m => ?_⟩, fun a o e h => ?_⟩
  · show (if a ∈ R.map Prod.fst then none else G a) = _
    rw [if_neg (st.nof e)]; exact s _ _ (st.fz _ _ e)
  · have e : (if a ∈ R.map Prod.fst then none else G a) = some o := e
    split at e
    · cases e
    · exact sb.fz _ _ e
  · rw [List.map_append, List.nodup_append]
    exact ⟨sb.lay.nd, st.lay.nd, fun a ma b mb e => dis a ma (e ▸ mb)⟩
  · rcases List.mem_append.mp m with m | m
    · exact sb.lay.has c m
    · exact sb.fz _ _ (s _ _ (st.lay.has c m))
  · rcases List.mem_append.mp m with m | m
    · exact sb.lay.mt c m
    · exact st.lay.mt c m
  · show (if a ∈ R.map Prod.fst then none else G a) = _
    rw [List.map_append] at m
    split
    · rfl
    · rcases List.mem_append.mp m with m | m
      · exact sb.off a m
      · rename_i h; exact absurd m h
  · show (if a ∈ R.map Prod.fst then none else G a) = _
    rw [if_neg fun m => ?_]
    · exact e
    · obtain ⟨h1, h2⟩ := inR a o e m
      rcases h with h | h
      · rw [h1] at h; cases h
      · rw [h2] at h; cases h
end L2.A

namespace L2.A
open PySem PySem.Spec PyProof.Rows
section
variable {K : PySem.W.Frag} {σ : St} {H : Hp} {D : Ends} {Q : VK} {J : It} {G : Hp → Prop} {Y : Nat → Hp → V → Hp → Prop} {F : Hp} {L : Cells} {α : Type}
/-- a comprehension whose items follow from the things walked: acc of those behind it -/
theorem LcW.acc (xs : List α) (acc : List α → List V) (Yv : α → V → Hp → Prop) (w : Walk J xs.length G Y) (hY : ∀ i H x H', i < xs.length → Y i H x H' → Same H H' ∧ ∀ a, xs[i]? = some a → Yv a x H')
    {g : TG} {tt : TT} {te : TE} {vs : List Nat} (hz : xs.length ≤ 100000) (st : Sta F L H) (hG : ∀ F' H', Same F F' → Sta F' L H' → G H') (h0 : acc [] = [])
    (hs : ∀ (A : Addr) pre a x F' H', a ∈ xs → Same F F' → Sta F' ((A, .lst (acc pre)) :: L) H' → Yv a x H' → ∀ (yes : V → Hp → Prop) (no : Hp → Prop),
      (∀ y F'' H'', acc (pre ++ [a]) = acc pre ++ [y] → Same F' F'' → Sta F'' ((A, .lst (acc pre)) :: L) H'' → yes y H'') → (∀ F'' H'', acc (pre ++ [a]) = acc pre → Same F' F'' → Sta F'' ((A, .lst (acc pre)) :: L) H'' → no H'') →
      g x (wipe σ vs) H' fun σ2 H2 => wipe σ2 vs = wipe σ vs ∧ tt σ2 H2 fun b H3 => if b = true then te σ2 H3 yes else no H3)
    (hd : ∀ (A : Addr) F' H', Same F F' → Sta F' ((A, .lst (acc xs)) :: L) H' → Q (.ref A) H') : LcW J g tt te vs σ H Q := by
  refine LcW.sta w (fun i ys F' L' => ys = acc (xs.take i) ∧ Same F F' ∧ L' = L) hz st ⟨by rw [List.take_zero]; exact h0.symm, .refl _, rfl⟩ (fun i ys F' L' H' _ st' ⟨_, s, e⟩ => by subst e; exact hG F' H' s st') ?_ ?_
  · rintro A i x ys F' L' H1 H2 hi hl st' ⟨rfl, s, rfl⟩ y yes no hy hn
    obtain ⟨s2, ya⟩ := hY i H1 x H2 hi y
    have ea : xs[i]? = some xs[i] := List.getElem?_eq_getElem hi
    have et : xs.take (i + 1) = xs.take i ++ [xs[i]] := by rw [List.take_add_one, ea]; rfl
    refine hs A (xs.take i) xs[i] x F' H2 (List.getElem_mem hi) s (st'.same s2) (ya _ ea) yes no (fun y F'' H'' e s3 st3 => hy y F'' L' H'' st3 ⟨by rw [et, e], s.trans s3, rfl⟩) fun F'' H'' e s3 st3 => hn F'' L' H'' st3 ⟨by rw [et, e], s.trans s3, rfl⟩
  · rintro A ys F' L' H' st' _ ⟨rfl, s, rfl⟩
    rw [List.take_length] at st'
    exact hd A F' H' s st'
theorem LcW.accL {a : Addr} (xs : List α) (emb : α → V) (acc : List α → List V) {g : TG} {tt : TT} {te : TE} {vs : List Nat} (hz : xs.length ≤ 100000) (st : Sta F L H) (hG : ∀ F' H', Same F F' → Sta F' L H' → SqL K H' a (xs.map emb)) (h0 : acc [] = [])
    (hs : ∀ (A : Addr) pre x F' H', x ∈ xs → Same F F' → Sta F' ((A, .lst (acc pre)) :: L) H' → ∀ (yes : V → Hp → Prop) (no : Hp → Prop),
      (∀ y F'' H'', acc (pre ++ [x]) = acc pre ++ [y] → Same F' F'' → Sta F'' ((A, .lst (acc pre)) :: L) H'' → yes y H'') → (∀ F'' H'', acc (pre ++ [x]) = acc pre → Same F' F'' → Sta F'' ((A, .lst (acc pre)) :: L) H'' → no H'') →
      g (emb x) (wipe σ vs) H' fun σ2 H2 => wipe σ2 vs = wipe σ vs ∧ tt σ2 H2 fun b H3 => if b = true then te σ2 H3 yes else no H3)
    (hd : ∀ (A : Addr) F' H', Same F F' → Sta F' ((A, .lst (acc xs)) :: L) H' → Q (.ref A) H') : LcW (Itl K a) g tt te vs σ H Q := by
  have w : Walk (Itl K a) xs.length (fun H => SqL K H a (xs.map emb)) (YAt (xs.map emb)) := by have := walk_list (K := K) (a := a) (xs := xs.map emb); rwa [List.length_map] at this
  refine LcW.acc xs acc (fun a x _ => x = emb a) w (fun i H x H' hi y => ?_) hz st hG h0 (fun A pre b x F' H' hb s st' e yes no hy hn => ?_) hd
  · obtain ⟨rfl, y⟩ := y
    refine ⟨.refl _, fun b hb => ?_⟩
    rw [List.getElem?_map, hb] at y
    exact (Option.some.inj y).symm
  · subst e
    exact hs A pre b F' H' hb s st' yes no hy hn
theorem LcW.accT {a : Addr} (xs : List α) (emb : α → V) (acc : List α → List V) {g : TG} {tt : TT} {te : TE} {vs : List Nat} (hz : xs.length ≤ 100000) (st : Sta F L H) (hG : ∀ F' H', Same F F' → Sta F' L H' → SqT K H' a (xs.map emb)) (h0 : acc [] = [])
    (hs : ∀ (A : Addr) pre x F' H', x ∈ xs → Same F F' → Sta F' ((A, .lst (acc pre)) :: L) H' → ∀ (yes : V → Hp → Prop) (no : Hp → Prop),
      (∀ y F'' H'', acc (pre ++ [x]) = acc pre ++ [y] → Same F' F'' → Sta F'' ((A, .lst (acc pre)) :: L) H'' → yes y H'') → (∀ F'' H'', acc (pre ++ [x]) = acc pre → Same F' F'' → Sta F'' ((A, .lst (acc pre)) :: L) H'' → no H'') →
      g (emb x) (wipe σ vs) H' fun σ2 H2 => wipe σ2 vs = wipe σ vs ∧ tt σ2 H2 fun b H3 => if b = true then te σ2 H3 yes else no H3)
    (hd : ∀ (A : Addr) F' H', Same F F' → Sta F' ((A, .lst (acc xs)) :: L) H' → Q (.ref A) H') : LcW (Itt K a) g tt te vs σ H Q := by
  have w : Walk (Itt K a) xs.length (fun H => SqT K H a (xs.map emb)) (YAt (xs.map emb)) := by have := walk_tup (K := K) (a := a) (xs := xs.map emb); rwa [List.length_map] at this
  refine LcW.acc xs acc (fun a x _ => x = emb a) w (fun i H x H' hi y => ?_) hz st hG h0 (fun A pre b x F' H' hb s st' e yes no hy hn => ?_) hd
  · obtain ⟨rfl, y⟩ := y
    refine ⟨.refl _, fun b hb => ?_⟩
    rw [List.getElem?_map, hb] at y
    exact (Option.some.inj y).symm
  · subst e
    exact hs A pre b F' H' hb s st' yes no hy hn
/-- a loop: I of the things behind it -/
theorem ForW.acc (xs : List α) (Yv : α → V → Hp → Prop) (w : Walk J xs.length G Y) (hY : ∀ i H x H', i < xs.length → Y i H x H' → Same H H' ∧ ∀ a, xs[i]? = some a → Yv a x H') {g : TG} {tb : TS} (I : List α → St → Hp → Prop) (h0 : I [] σ H) (hG : ∀ pre σ H, I pre σ H → G H)
    (hs : ∀ pre a x σ H H', a ∈ xs → (∃ post, xs = pre ++ a :: post) → I pre σ H → Same H H' → Yv a x H' → g x σ H' fun σ2 H2 => tb { D with nx := I (pre ++ [a]), ct := I (pre ++ [a]), bk := D.nx } σ2 H2) (hd : ∀ σ H, I xs σ H → D.nx σ H) : ForW J g tb D σ H := by
  refine ForW.it w (fun i σ H => I (xs.take i) σ H) h0 (fun i σ H _ h => hG _ σ H h) (fun i x σ H H' hi h y => ?_) (fun σ H h => hd σ H (by rwa [List.take_length] at h))
  obtain ⟨s2, ya⟩ := hY i H x H' hi y
  have ea : xs[i]? = some xs[i] := List.getElem?_eq_getElem hi
  have et : xs.take (i + 1) = xs.take i ++ [xs[i]] := by rw [List.take_add_one, ea]; rfl
  have := hs (xs.take i) xs[i] x σ H H' (List.getElem_mem hi) ⟨xs.drop (i + 1), by rw [← List.drop_eq_getElem_cons hi, List.take_append_drop]⟩ h s2 (ya _ ea)
  rw [← et] at this
  exact this
theorem ForW.accL {a : Addr} (xs : List α) (emb : α → V) {g : TG} {tb : TS} (I : List α → St → Hp → Prop) (h0 : I [] σ H) (hG : ∀ pre σ H, I pre σ H → SqL K H a (xs.map emb))
    (hs : ∀ pre x σ H, x ∈ xs → (∃ post, xs = pre ++ x :: post) → I pre σ H → g (emb x) σ H fun σ2 H2 => tb { D with nx := I (pre ++ [x]), ct := I (pre ++ [x]), bk := D.nx } σ2 H2) (hd : ∀ σ H, I xs σ H → D.nx σ H) : ForW (Itl K a) g tb D σ H := by
  have w : Walk (Itl K a) xs.length (fun H => SqL K H a (xs.map emb)) (YAt (xs.map emb)) := by have := walk_list (K := K) (a := a) (xs := xs.map emb); rwa [List.length_map] at this
  refine ForW.it w (fun i σ H => I (xs.take i) σ H) h0 (fun i σ H _ h => hG _ σ H h) (fun i x σ H H' hi h y => ?_) (fun σ H h => hd σ H (by rwa [List.take_length] at h))
  obtain ⟨rfl, y⟩ := y
  have ea : xs[i]? = some xs[i] := List.getElem?_eq_getElem hi
  rw [List.getElem?_map, ea] at y
  cases y
  have et : xs.take (i + 1) = xs.take i ++ [xs[i]] := by rw [List.take_add_one, ea]; rfl
  have := hs (xs.take i) xs[i] σ H' (List.getElem_mem hi) ⟨xs.drop (i + 1), by rw [← List.drop_eq_getElem_cons hi, List.take_append_drop]⟩ h
  rw [← et] at this
  exact this
end
end L2.A

namespace L2.A
open PySem PySem.Spec PyProof.Rows
theorem Sta.skip2 {F : Hp} {L : Cells} {H : Hp} {x y : Addr × HO} (st : Sta F (x :: y :: L) H) : Sta F (x :: L) H := (st.perm (.swap ..)).tail
theorem walk_emb {K : PySem.W.Frag} {a : Addr} {α : Type} {xs : List α} {emb : α → V} : Walk (Itl K a) xs.length (fun H => SqL K H a (xs.map emb)) (YAt (xs.map emb)) := by
  have := walk_list (K := K) (a := a) (xs := xs.map emb)
  rwa [List.length_map] at this
theorem walk_embT {K : PySem.W.Frag} {a : Addr} {α : Type} {xs : List α} {emb : α → V} : Walk (Itt K a) xs.length (fun H => SqT K H a (xs.map emb)) (YAt (xs.map emb)) := by
  have := walk_tup (K := K) (a := a) (xs := xs.map emb)
  rwa [List.length_map] at this
end L2.A

namespace L2.A
open PySem PySem.Spec PyProof.Rows
theorem go_revS {F : Hp} {L R : Cells} {H : Hp} {l : Addr} {xs : List V} {Q : VK} (st : Sta F L H) (p : L.Perm ((l, .lst xs) :: R)) (h : ∀ H', Sta F ((l, .lst xs.reverse) :: R) H' → Q .non H') : rReverse (.ref l) [] H Q :=
  ⟨l, xs, rfl, rfl, (st.perm p).get (.head _), h _ (st.put p rfl)⟩
end L2.A

namespace L2.A
/-- a block behind others -/
theorem pm_app2 {B R : Cells} : (R ++ B).Perm (B ++ R) := List.perm_append_comm
end L2.A

namespace L2.A
open PySem PySem.Spec PyProof.Rows
theorem All2.cut {α β : Type} {R : α → β → Prop} : ∀ {as : List α} {bs : List β} (m k : Nat), All2 R as bs → All2 R ((as.drop m).take k) ((bs.drop m).take k) := by
  have tk : ∀ {as : List α} {bs : List β} (k : Nat), All2 R as bs → All2 R (as.take k) (bs.take k) := by
    intro as bs k h
    induction h generalizing k with
    | nil => simp only [List.take_nil]; exact .nil
    | cons x _ ih =>
      cases k with
      | zero => exact .nil
      | succ k => exact .cons x (ih k)
  intro as bs m k h
  induction h generalizing m with
  | nil => simp only [List.drop_nil, List.take_nil]; exact .nil
  | cons x y ih =>
    cases m with
    | zero => exact tk k (.cons x y)
    | succ m => exact ih m
theorem All2.append {α β : Type} {R : α → β → Prop} {cs : List α} {ds : List β} : ∀ {as : List α} {bs : List β}, All2 R as bs → All2 R cs ds → All2 R (as ++ cs) (bs ++ ds)
  | _, _, .nil, y => y
  | _, _, .cons x z, y => .cons x (All2.append z y)
theorem All2.atI {R : V → α → Prop} : ∀ {as : List V} {bs : List α} {j : Int}, All2 R as bs → -(as.length : Int) ≤ j → j < as.length → ∃ a b, L2.atI as j = some a ∧ b ∈ bs ∧ R a b := by
  intro as bs j h h0 h1
  obtain ⟨n, hn, e⟩ : ∃ n, n < as.length ∧ ixN as.length j = some n := by
    by_cases c : 0 ≤ j
    · exact ⟨j.toNat, by omega, by unfold ixN; rw [if_pos c, if_pos h1]⟩
    · refine ⟨(j + as.length).toNat, by omega, ?_⟩
      unfold ixN
      rw [if_neg (by omega), if_pos (by omega)]
  obtain ⟨b, eb, r⟩ := h.at (List.getElem?_eq_getElem hn)
  refine ⟨_, b, ?_, List.mem_of_getElem? eb, r⟩
  unfold L2.atI
  rw [e]
  exact List.getElem?_eq_getElem hn
end L2.A

namespace L2.A
open PySem PySem.Spec PyProof.Rows
/-- a tuple that is laid stands still -/
theorem Sta.tupF {F : Hp} {L : Cells} {H : Hp} {t : Addr} {xs : List V} (st : Sta F L H) (e : H t = some (.tup xs)) : ∃ F', Same F F' ∧ F' t = some (.tup xs) ∧ Sta F' L H := by
  have nL := st.lay.tup e
  refine ⟨upd F t (.tup xs), fun a o q => ?_, upd_same, fun b u q => ?_, st.lay, fun b m => ?_⟩
  · by_cases z : a = t
    · subst z
      have := st.fz _ _ q
      rw [e] at this
      cases this
      exact upd_same
    · rw [upd_ne z]; exact q
  · by_cases z : b = t
    · subst z; rw [upd_same] at q; cases q; exact e
    · rw [upd_ne z] at q; exact st.fz _ _ q
  · rw [upd_ne (fun z => nL (by rw [← z]; exact m))]; exact st.off b m
end L2.A

namespace L2.A
open PySem PySem.Spec PyProof.Rows
section
variable {α : Type} {x y z w : α} {xs : List α}
theorem at0 : L2.atI (x :: xs) 0 = some x := by
  have h : ixN (x :: xs).length 0 = some 0 := by unfold ixN; rw [if_pos (by decide), if_pos (by rw [List.length_cons]; omega)]; rfl
  unfold L2.atI; rw [h]; rfl
theorem at1 : L2.atI (x :: y :: xs) 1 = some y := by
  have h : ixN (x :: y :: xs).length 1 = some 1 := by unfold ixN; rw [if_pos (by decide), if_pos (by rw [List.length_cons, List.length_cons]; omega)]; rfl
  unfold L2.atI; rw [h]; rfl
theorem at2 : L2.atI (x :: y :: z :: xs) 2 = some z := by
  have h : ixN (x :: y :: z :: xs).length 2 = some 2 := by unfold ixN; rw [if_pos (by decide), if_pos (by rw [List.length_cons, List.length_cons, List.length_cons]; omega)]; rfl
  unfold L2.atI; rw [h]; rfl
theorem at3 : L2.atI (x :: y :: z :: w :: xs) 3 = some w := by
  have h : ixN (x :: y :: z :: w :: xs).length 3 = some 3 := by unfold ixN; rw [if_pos (by decide), if_pos (by rw [List.length_cons, List.length_cons, List.length_cons, List.length_cons]; omega)]; rfl
  unfold L2.atI; rw [h]; rfl
end
end L2.A

namespace L2.A
theorem nd_true {p : Prop} [Decidable p] (h : (!decide p) = false) : p := by simpa using h
theorem nd_false {p : Prop} [Decidable p] (h : (!decide p) = true) : ¬ p := by simpa using h
end L2.A

namespace L2.A
open PySem PySem.Spec PyProof.Rows
section
variable {F : Hp} {L R : Cells} {H : Hp} {l : Addr} {xs : List V} {y : V} {Q : VK}
theorem go_insS {i : Int} (st : Sta F L H) (p : L.Perm ((l, .lst xs) :: R)) (z : xs.length < 100000) (h0 : 0 ≤ i ∧ i < 100000) (h : ∀ H', Sta F ((l, .lst (xs.take i.toNat ++ [y] ++ xs.drop i.toNat)) :: R) H' → Q .non H') :
    ∃ (l' : Addr) (xs' : List V) (i' : Int) (y' : V), V.ref l = .ref l' ∧ [V.int i, y] = [.int i', y'] ∧ H l' = some (.lst xs') ∧ xs'.length < sizeLine ∧ 0 ≤ i' ∧ i' < 2 ^ 63 ∧ Q .non (upd H l' (.lst (xs'.take i'.toNat ++ [y'] ++ xs'.drop i'.toNat))) :=
  go_ins ((st.perm p).get (.head _)) z h0 (h _ (st.put p rfl))
theorem go_popS {k : Nat} (st : Sta F L H) (p : L.Perm ((l, .lst xs) :: R)) (hk : k < xs.length) (hs : k < 100000) (h : ∀ H', Sta F ((l, .lst (xs.eraseIdx k)) :: R) H' → Q xs[k] H') : rPopAt (.ref l) [.int (k : Int)] H Q :=
  ⟨l, xs, (k : Int), k, xs[k], rfl, rfl, (st.perm p).get (.head _), by omega, by omega, by unfold seqIndex?; simp; omega, List.getElem?_eq_getElem hk, h _ (st.put p rfl)⟩
/-- a dict that is written -/
theorem Sta.disp {o : HO} {p : Addr} {o' : HO} (st : Sta F L H) (n : H p = none) : ∃ F', Same F F' ∧ F' p = some o ∧ Sta F' L (upd (upd H p o') p o) := by
  rw [upd_upd]
  exact st.newF n (same_new n) upd_same
end
end L2.A

namespace L2.A
theorem All2.set {α β : Type} {R : α → β → Prop} {a : α} {b : β} : ∀ {as : List α} {bs : List β} {k : Nat}, All2 R as bs → R a b → All2 R (as.set k a) (bs.set k b)
  | _, _, _, .nil, _ => .nil
  | _, _, 0, .cons _ y, h => .cons h y
  | _, _, _ + 1, .cons x y, h => .cons x (y.set h)
end L2.A

namespace L2.A
open PySem PySem.Spec PyProof.Rows
theorem relabel_vis {sc : Scope} {env : Env} {x : Str} (h : sc.names.lookup x = some .cell ∨ sc.names.lookup x = some .free) : (relabel sc env).names.lookup x = some .cell ∨ (relabel sc env).names.lookup x = some .free := by
  show (sc.names.map fun (n, k) => if (k == NameKind.free && env.scope.kind == .function && env.kindOf n == some .cell) then (n, NameKind.cell) else (n, k)).lookup x = _ ∨ (sc.names.map fun (n, k) => if (k == NameKind.free && env.scope.kind == .function && env.kindOf n == some .cell) then (n, NameKind.cell) else (n, k)).lookup x = _
  generalize sc.names = l at h ⊢
  induction l with
  | nil => rcases h with h | h <;> cases h
  | cons p r ih =>
    obtain ⟨n, k⟩ := p
    rw [List.map_cons]
    cases hx : x == n with
    | true =>
      simp only [List.lookup_cons, hx] at h
      by_cases hc : (k == NameKind.free && env.scope.kind == .function && env.kindOf n == some .cell) = true
      · simp [hc, List.lookup_cons, hx]
      · simp only [if_neg hc, List.lookup_cons, hx]; exact h
    | false =>
      simp only [List.lookup_cons, hx] at h
      by_cases hc : (k == NameKind.free && env.scope.kind == .function && env.kindOf n == some .cell) = true
      · simp only [hc, if_true, List.lookup_cons, hx]; exact ih h
      · simp only [if_neg hc, List.lookup_cons, hx]; exact ih h
/-- a comprehension within another's element -/
theorem blkOk_in {N : List Str} {sc scope : Scope} {own : List (Str × Nat)} {cl : List (Str × Addr)} {C : Addr} {env : Env} (h : blkC N sc scope own = true) : BlkOk N (compEnvC sc cl C env).scope scope own :=
  have B := blkOk_by h
  ⟨B.kind, B.uniq, B.ix, fun y m e => relabel_vis (B.free y m e), B.own⟩
end L2.A


namespace L2.A
open PySem PySem.Spec PyProof.Rows
/-! ### l.count(x) of flat items -/
section
variable {X : Cx} {K : PySem.W.Frag}
def rCntF (K : PySem.W.Frag) : V → List V → Hp → VK → Prop := fun x xs H Q => ∃ (a : Addr) (ys : List V) (y : V), x = V.ref a ∧ xs = [y] ∧ SqL K H a ys ∧ flatV y = true ∧ ys.all flatV = true ∧ Q (.int (ys.countP fun z => eqV z y : Nat)) H
theorem countP_eqU {y : V} {u : Value} (ry : RelV y u) : ∀ {ys : List V} {us : List Value}, Vals ys us → ys.all flatV = true → us.countP (eqU y) = ys.countP fun z => eqV z y
  | _, _, .nil, _ => rfl
  | _, _, .cons r1 r2, h => by
    rw [List.all_cons, Bool.and_eq_true] at h
    rw [List.countP_cons, List.countP_cons, countP_eqU ry r2 h.2, eqU_of r1 h.1]
theorem mt_cntF : MtR X "list.count" (rCntF X.K) := by
  intro pins s σ H x xs v us Q I rx rxs h
  obtain ⟨a, ys, y, rfl, rfl, hs, fy, fys, q⟩ := h
  cases rx
  cases rxs with
  | cons ry rt =>
    rename_i uy ut
    cases rt
    obtain ⟨its, rv, ⟨⟨cls, dd, data, sl⟩, n, ho, hc, hdn, hd⟩, hlen⟩ := I.list hs
    simp only at hc hd
    subst hc hd
    refine call_meets PySem.F.slot_list_count ⟨_, ho, rfl⟩ PySem.F.entry_list_count (PySem.F.args_list_count_2 _ _)
      (SeqAt.list_countAt a its.toArray n dd sl uy (eqU y)) ⟨ho, fun u' hu' => mem_eqAt ry fy rv fys u' (by simpa using hu'), ?_⟩
    refine ⟨.int (ys.countP fun z => eqV z y : Nat), H, I.tok _, ⟨s.toks, ?_⟩, q⟩
    show Value.int ((its.toArray.toList.countP (eqU y) : Nat) : Int) s.toks = _
    rw [show its.toArray.toList = its from rfl, countP_eqU ry rv fys]
theorem mt_cntK (hK : X.K = K) : MtR X "list.count" (rCntF K) := hK ▸ mt_cntF
variable {H : Hp} {Q : VK}
theorem go_cnt {a : Addr} {ys : List V} {y : V} (hs : SqL K H a ys) (fy : flatV y = true) (f : ys.all flatV = true) (h : Q (.int (ys.countP fun z => eqV z y : Nat)) H) : rCntF K (.ref a) [y] H Q := ⟨a, ys, y, rfl, rfl, hs, fy, f, h⟩
theorem go_index {a : Addr} {ys : List V} {y z : V} {j : Nat} (hs : SqL K H a ys) (fy : flatV y = true) (f : ys.all flatV = true) (e : ys[j]? = some z) (t : eqV z y = true) (n : ∀ (m : Nat) (z' : V), m < j → ys[m]? = some z' → eqV z' y = false) (h : Q (.int (j : Nat)) H) : rIndex K (.ref a) [y] H Q :=
  ⟨a, ys, y, j, z, rfl, rfl, hs, fy, f, e, t, n, h⟩
end
end L2.A

namespace L2.A
open PySem PySem.Spec PyProof.Rows
/-! ### d.update(e) -/
def rUpdD : V → List V → Hp → VK → Prop := fun x vs H Q => ∃ (a b : Addr) (kvs more : List (Key × V)), x = .ref a ∧ vs = [.ref b] ∧ a ≠ b ∧ H a = some (.dK kvs) ∧ H b = some (.dK more) ∧ kvs.length + more.length ≤ sizeLine ∧ Q .non (upd H a (.dK (mergeK kvs more)))
theorem mt_update {X : Cx} : MtR X "dict.update" rUpdD := by
  intro pins s σ H x vs v us Q I rx rv h
  obtain ⟨a, b, kvs, more, rfl, rfl, ne, e, e2, z3, q⟩ := h
  cases rx
  obtain ⟨u, rfl, ru⟩ := rv.one
  cases ru
  obtain ⟨z, hd, ws, rel, dd⟩ := dk_of I.hok e
  obtain ⟨z2, hd2, ws2, rel2, dd2⟩ := dk_of I.hok e2
  refine call_meetsIn PySem.F.slot_dict_update dd.typeIs PySem.F.entry_dict_update (PySem.F.args_dict_update_2 _ _) (meets_dict_update (mixKind X.prog X.w) a b ne hd2) ⟨ws, ws2, dd, dd2, by rw [← rel.length, ← rel2.length]; exact z3, fun h' dd' _ hs => ?_⟩
  have he : ∃ q, h'.get? a = some q := let ⟨q, _, _, hq, _⟩ := dd'; ⟨q, hq⟩
  exact ⟨.non, _, d_write (t' := s.toks) I (by rw [e]; exact True.intro) hs he (dk_new (Nat.le_trans (length_mergeK more kvs) z3) hd (rel2.merge rel) dd'), rfl, q⟩
theorem go_updS {F : Hp} {L R : Cells} {H : Hp} {a b : Addr} {kvs more out : List (Key × V)} {Q : VK} (st : Sta F L H) (p : L.Perm ((a, .dK kvs) :: R)) (e : F b = some (.dK more)) (z : Nat.ble (kvs.length + more.length) 1000 = true) (m : mergeK kvs more = out)
    (h : ∀ H', Sta F ((a, .dK out) :: R) H' → Q .non H') : rUpdD (.ref a) [.ref b] H Q := by
  have st' := st.perm p
  refine ⟨a, b, kvs, more, rfl, rfl, fun z => ?_, st'.get (.head _), st.of e, szl (Nat.le_trans (Nat.le_of_ble_eq_true z) (by decide)), by rw [m]; exact h _ (st.put p rfl)⟩
  have := st'.off a (List.mem_cons_self ..)
  rw [z, e] at this; cases this
end L2.A

namespace L2.A
open PySem PySem.Spec PyProof.Rows
/-- dec_int, dec_str under names that are no one else's -/
theorem decI {i j : Int} : decide (V.int i = V.int j) = decide (i = j) := by simp
theorem decS {i j : Str} : decide (V.str i = V.str j) = decide (i = j) := by simp
theorem decB {i j : Bool} : decide (V.bl i = V.bl j) = decide (i = j) := by simp
end L2.A

namespace L2.A
open PySem PySem.Spec PyProof.Rows
/-- is None, told of a value that shows it -/
theorem ifN_ref {a : Addr} {A B : Prop} (h : B) : if decide (V.ref a = V.non) = true then A else B := by rw [if_neg (by simp)]; exact h
theorem ifM_ref {a : Addr} {A B : Prop} (h : A) : if (!decide (V.ref a = V.non)) = true then A else B := by rw [if_pos (by simp)]; exact h
theorem ifN_int {a : Int} {A B : Prop} (h : B) : if decide (V.int a = V.non) = true then A else B := by rw [if_neg (by simp)]; exact h
theorem ifM_int {a : Int} {A B : Prop} (h : A) : if (!decide (V.int a = V.non)) = true then A else B := by rw [if_pos (by simp)]; exact h
theorem ifN_str {a : Str} {A B : Prop} (h : B) : if decide (V.str a = V.non) = true then A else B := by rw [if_neg (by simp)]; exact h
theorem ifM_str {a : Str} {A B : Prop} (h : A) : if (!decide (V.str a = V.non)) = true then A else B := by rw [if_pos (by simp)]; exact h
theorem ifN_bl {a : Bool} {A B : Prop} (h : B) : if decide (V.bl a = V.non) = true then A else B := by rw [if_neg (by simp)]; exact h
theorem ifM_bl {a : Bool} {A B : Prop} (h : A) : if (!decide (V.bl a = V.non)) = true then A else B := by rw [if_pos (by simp)]; exact h
theorem ifN_non {A B : Prop} (h : A) : if decide (V.non = V.non) = true then A else B := by rw [if_pos (by simp)]; exact h
theorem ifM_non {A B : Prop} (h : B) : if (!decide (V.non = V.non)) = true then A else B := by rw [if_neg (by simp)]; exact h
end L2.A

namespace L2.A
theorem ifo_t {b : Bool} {A B : Prop} (h : A) : if (true || b) = true then A else B := h
theorem ifo_f {b : Bool} {A B : Prop} (h : if b = true then A else B) : if (false || b) = true then A else B := h
theorem ifa_t {b : Bool} {A B : Prop} (h : if b = true then A else B) : if (true && b) = true then A else B := h
theorem ifa_f {b : Bool} {A B : Prop} (h : B) : if (false && b) = true then A else B := h
end L2.A

namespace L2.A
open PySem PySem.Spec PyProof.Rows
/-! ### a test, an expression, with a word behind it -/
def tTestC (tt : TT) : TT := fun σ H Q => ∃ Mid : Bool → Hp → Prop, tt σ H Mid ∧ ∀ b H', Mid b H' → Q b H'
def tEC (te : TE) : TE := fun σ H Q => ∃ Mid : VK, te σ H Mid ∧ ∀ v H', Mid v H' → Q v H'
theorem pt_cut {X : Cx} {e : Expr} {tt : TT} (h : PT X e tt) : PT X e (tTestC tt) :=
  ⟨fun pins s σ H Q I ⟨_, hm, hq⟩ => thn (h.run pins s σ H _ I hm) fun _ _ ⟨H1, I1, q1⟩ => ⟨H1, I1, hq _ _ q1⟩⟩
theorem pe_cut {X : Cx} {e : Expr} {te : TE} (h : PE X e te) : PE X e (tEC te) :=
  ⟨fun pins s σ H Q I ⟨_, hm, hq⟩ => thn (h.run pins s σ H _ I hm) fun _ _ ⟨v, H1, I1, r1, q1⟩ => ⟨v, H1, I1, r1, hq _ _ q1⟩⟩
section
variable {tt : TT} {te : TE} {σ : St} {H : Hp} {QB : Bool → Hp → Prop} {Q : VK} {F : Hp} {L : Cells}
theorem go_tcut (Mid : Bool → Hp → Prop) (h1 : tt σ H Mid) (h2 : ∀ b H', Mid b H' → QB b H') : tTestC tt σ H QB := ⟨Mid, h1, h2⟩
/-- the test tells B -/
theorem go_tcutB (B : Bool) (_st : Sta F L H) (h1 : tt σ H fun b H' => b = B ∧ ∃ F', Same F F' ∧ Sta F' L H') (h2 : ∀ F' H', Same F F' → Sta F' L H' → QB B H') : tTestC tt σ H QB :=
  ⟨_, h1, fun _ H' ⟨e, F', s, st⟩ => by rw [e]; exact h2 F' H' s st⟩
theorem go_tcutS (B : Bool) (h1 : tt σ H fun b H' => b = B ∧ Same H H') (h2 : ∀ H', Same H H' → QB B H') : tTestC tt σ H QB :=
  ⟨_, h1, fun _ H' ⟨e, s⟩ => by rw [e]; exact h2 H' s⟩
theorem go_ecut (Mid : VK) (h1 : te σ H Mid) (h2 : ∀ v H', Mid v H' → Q v H') : tEC te σ H Q := ⟨Mid, h1, h2⟩
theorem go_ecutB (v : V) (_st : Sta F L H) (h1 : te σ H fun x H' => x = v ∧ ∃ F', Same F F' ∧ Sta F' L H') (h2 : ∀ F' H', Same F F' → Sta F' L H' → Q v H') : tEC te σ H Q :=
  ⟨_, h1, fun _ H' ⟨e, F', s, st⟩ => by rw [e]; exact h2 F' H' s st⟩
theorem go_ecutS (v : V) (h1 : te σ H fun x H' => x = v ∧ Same H H') (h2 : ∀ H', Same H H' → Q v H') : tEC te σ H Q :=
  ⟨_, h1, fun _ H' ⟨e, s⟩ => by rw [e]; exact h2 H' s⟩
end
end L2.A

namespace L2.A
open PySem PySem.Spec PyProof.Rows
/-- a dict that is written, laid alive -/
theorem go_dispS {F : Hp} {L R : Cells} {H : Hp} {d : Addr} {ps : List (V × V)} {out : List (Key × V)} {Q : VK} (st : Sta F L H) (pm : L.Perm ((d, .dK []) :: R)) (e : ps = (ps.map kvOf).map (fun kv => (kV kv.1, kv.2))) (hl : Nat.ble (ps.map kvOf).length 15 = true) (m : mergeK [] (ps.map kvOf) = out)
    (h : ∀ H', Sta F ((d, .dK out) :: R) H' → Q (.ref d) H') : DispK d ps H Q :=
  go_dispK ((st.perm pm).get (.head _)) e hl (by rw [m]; exact h _ (st.put pm rfl))
/-- ahead of its items -/
theorem go_dispN {F : Hp} {L : Cells} {H : Hp} {trs : List (TE × TE)} {σ : St} {Q : VK} (st : Sta F L H) (h : ∀ d H', Sta F ((d, .dK []) :: L) H' → tPairs trs σ H' fun ps H2 => DispK d ps H2 Q) : DispN trs σ H Q :=
  fun d hd => h d _ (st.newL hd (same_new hd) upd_same rfl)
end L2.A

namespace L2.A
open PySem PySem.Spec PyProof.Rows
theorem go_ninS {K : PySem.W.Frag} {H : Hp} {Q : VK} {p : Addr} {zs : List Str} {z : Str} (hp : H p = some (setO zs)) (h : Q (.bl (!decide (z ∈ zs))) H) : rNotInX K (.str z) (.ref p) H Q := by
  refine .inr (.inr ⟨p, _, rfl, DGet.k (k := Sum.inr z) hp, ?_⟩)
  rw [valV_set]
  by_cases e : z ∈ zs
  · rw [if_pos e]; rwa [decide_eq_true e] at h
  · rw [if_neg e]; rwa [decide_eq_false e] at h
end L2.A


namespace L2.A
open PySem PySem.Spec PyProof.Rows
/-! ### steps found by their head: one instance a construct (the search by instances is indexed, and leaves nothing in the info tree) -/
class Go (G : Prop) (N : outParam Prop) : Prop where
  go : N → G
/-- what a slot holds -/
class At (σ : L2.St) (i : Nat) (v : outParam V) : Prop where
  at_ : σ[i]? = some (some v)
instance {v : V} {r : L2.St} : At (some v :: r) 0 v := ⟨rfl⟩
instance {x : Option V} {r : L2.St} {i : Nat} {v : V} [h : At r i v] : At (x :: r) (i + 1) v := ⟨by rw [List.getElem?_cons_succ]; exact h.at_⟩
class SetAt (σ : L2.St) (i : Nat) (x : Option V) (τ : outParam L2.St) : Prop where
  set_ : σ.set i x = τ
instance {x y : Option V} {r : L2.St} : SetAt (y :: r) 0 x (x :: r) := ⟨rfl⟩
instance {x y : Option V} {r τ : L2.St} {i : Nat} [h : SetAt r i x τ] : SetAt (y :: r) (i + 1) x (y :: τ) := ⟨by rw [List.set_cons_succ, h.set_]⟩
instance {i : Nat} {σ : L2.St} {H : Hp} {Q : VK} {v : V} [h : At σ i v] : Go (tVar i σ H Q) (Q v H) := ⟨go_var h.at_⟩
instance {i : Nat} {σ τ : L2.St} {H : Hp} {QS : L2.St → Hp → Prop} {v : V} [h : SetAt σ i (some v) τ] : Go (gName i v σ H QS) (QS τ H) := ⟨go_name h.set_⟩
instance {K : W.Frag} {a b : Str} {H : Hp} {Q : VK} : Go (rEqX K (.str a) (.str b) H Q) (Q (.bl (decide (V.str a = V.str b))) H) := ⟨go_eqS rfl⟩
instance {K : W.Frag} {a b : Int} {H : Hp} {Q : VK} : Go (rEqX K (.int a) (.int b) H Q) (Q (.bl (decide (V.int a = V.int b))) H) := ⟨go_eqS rfl⟩
instance {K : W.Frag} {a b : Str} {H : Hp} {Q : VK} : Go (rNeX K (.str a) (.str b) H Q) (Q (.bl (!decide (V.str a = V.str b))) H) := ⟨go_neS rfl⟩
instance {K : W.Frag} {a b : Int} {H : Hp} {Q : VK} : Go (rNeX K (.int a) (.int b) H Q) (Q (.bl (!decide (V.int a = V.int b))) H) := ⟨go_neS rfl⟩
instance {A B : Prop} : Go (if false = true then A else B) (B) := ⟨iteF⟩
instance {A B : Prop} : Go (if (!false) = true then A else B) (A) := ⟨iteNF⟩
instance {A B : Prop} : Go (if (!true) = true then A else B) (B) := ⟨iteNT⟩
instance {A B : Prop} : Go (if true = true then A else B) (A) := ⟨iteT⟩
instance {D : Ends} {σ : L2.St} {H : Hp} : Go (tCont D σ H) (Ends.ct D σ H) := ⟨go_ct⟩
instance {D : Ends} {σ : L2.St} {H : Hp} : Go (tBreak D σ H) (Ends.bk D σ H) := ⟨go_brk⟩
instance {K : W.Frag} {H : Hp} {Q : VK} {σ : L2.St} {T : String} {rc : V → List V → Hp → VK → Prop} {te : TE} : Go (tBM0 K T rc te σ H Q) ((te σ H fun (x : V) (H1 : Hp) => BmW0 K T rc x H1 Q)) := ⟨go_bm0⟩
instance {K : W.Frag} {H : Hp} {Q : VK} {σ : L2.St} {T : String} {rc : V → List V → Hp → VK → Prop} {te : TE} {ta : TA} : Go (tBM K T rc te ta σ H Q) ((te σ H fun (x : V) (H1 : Hp) => BmW K T rc ta σ x H1 Q)) := ⟨go_bm⟩
instance {σ : L2.St} {H : Hp} {D : Ends} {i j l : Nat} {ta : TA} : Go (tPar3 i j l ta D σ H) ((ta σ H fun (vs : List V) (H1 : Hp) => P3 i j l σ D vs H1)) := ⟨go_par3⟩
instance {σ : L2.St} {H : Hp} {D : Ends} {i j : Nat} {ta : TA} : Go (tPar i j ta D σ H) ((ta σ H fun (vs : List V) (H1 : Hp) => P2 i j σ D vs H1)) := ⟨go_par⟩
instance {H : Hp} {Q : VK} {f : Int → Int → Int} {a b : Int} : Go (ipI f (V.int a) (V.int b) H Q) (Q (V.int (f a b)) H) := ⟨go_ipI⟩
instance {K : W.Frag} {σ : L2.St} {H : Hp} {ta : TA} {R : It → Hp → Prop} : Go (iZip K ta σ H R) ((ta σ H fun (vs : List V) (H1 : Hp) => ZpW K vs H1 R)) := ⟨go_zip⟩
instance {K : W.Frag} {σ : L2.St} {H : Hp} {ta : TA} {R : It → Hp → Prop} : Go (RZ.iZipA K ta σ H R) ((ta σ H fun (vs : List V) (H1 : Hp) => ZpA K vs H1 R)) := ⟨go_zipA⟩
instance {ta : TA} {σ : L2.St} {H : Hp} {R : It → Hp → Prop} {K : W.Frag} : Go (iEnX K ta σ H R) ((ta σ H fun (vs : List V) (H1 : Hp) => EnX K vs R H1)) := ⟨go_enumX⟩
instance {ta tk : TA} {σ : L2.St} {H : Hp} {R : It → Hp → Prop} {K : W.Frag} : Go (iEnS K ta tk σ H R) ((ta σ H fun (vs : List V) (H1 : Hp) => tk σ H1 fun (zs : List V) (H2 : Hp) => EnS K vs R zs H2)) := ⟨go_enumS⟩
instance {K : W.Frag} {σ : L2.St} {H : Hp} {ta : TA} {R : It → Hp → Prop} : Go (iEnum K ta σ H R) ((ta σ H fun (vs : List V) (H1 : Hp) => EnW K vs H1 R)) := ⟨go_enum⟩
instance {H : Hp} {n : Int} {Q : Int → Int → Hp → Prop} : Go (Rg1 (V.int n) H Q) (Q 0 n H) := ⟨go_rg1b⟩
instance {σ : L2.St} {H : Hp} {ta : TE} {Q : Int → Int → Hp → Prop} : Go (tRg1 ta σ H Q) ((ta σ H fun (x : V) (H1 : Hp) => Rg1 x H1 Q)) := ⟨go_rg1⟩
instance {σ : L2.St} {H : Hp} {tr : L2.St → Hp → (Int → Int → Hp → Prop) → Prop} {R : It → Hp → Prop} : Go (iRevR tr σ H R) ((tr σ H fun (a b : Int) (H1 : Hp) => RvR a b H1 R)) := ⟨go_revR⟩
instance {K : W.Frag} {H : Hp} {Q : VK} {f : Str} {te : TE} {σ : L2.St} : Go (tXq K f te σ H Q) ((te σ H fun (x : V) (H1 : Hp) => XqW K f x H1 Q)) := ⟨go_xq⟩
instance {t : L2.St → Hp → XK → Prop} {σ : L2.St} {H : Hp} {Q : VK} : Go (tExV t σ H Q) ((t σ H fun (cls : Value) (d : Option Addr) (H' : Hp) => ExNew cls d H' Q)) := ⟨go_exv⟩
instance {C : Addr} {sp : Sp} {dvs : List V} {t : TA} {σ : L2.St} {H : Hp} {Q : XK} : Go (tMkO C sp dvs t σ H Q) ((t σ H fun (vs : List V) (H1 : Hp) => MkOW C sp dvs vs H1 Q)) := ⟨go_mkO⟩
instance {K : W.Frag} {σ : L2.St} {H : Hp} {D : Ends} {te to : TE} {f : Str} : Go (tOst K f to te D σ H) ((te σ H fun (y : V) (H1 : Hp) => to σ H1 fun (x : V) (H2 : Hp) => OstW K f y D σ x H2)) := ⟨go_ost⟩
instance {K : W.Frag} {σ : L2.St} {H : Hp} {Q : VK} {t : TA} : Go (tVeI K t σ H Q) ((t σ H fun (vs : List V) (H1 : Hp) => VeIW K vs H1 Q)) := ⟨go_veI⟩
instance {σ : L2.St} {H : Hp} {Q : VK} {E : L2.St → XK} {sp : Sp} {dvs : List V} {t : TA} {ta : TE} {C : Addr} {m : Str} : Go (A.tMethS C m sp dvs E ta t σ H Q) ((ta σ H fun (x : V) (H1 : Hp) => MethSW C m sp dvs (E σ) t σ x H1 Q)) := ⟨go_methS⟩
instance {σ : L2.St} {H : Hp} {Q : VK} {E : L2.St → XK} {sp : Sp} {dvs : List V} {t : TA} : Go (tCallSD sp dvs E t σ H Q) ((t σ H fun (vs : List V) (H1 : Hp) => sp (vs ++ dvs) H1 Q (E σ))) := ⟨go_callS⟩
instance {σ : L2.St} {H : Hp} {Q : VK} {t : TA} {C : Addr} {sp : Sp} {dvs : List V} {E : XK} : Go (tMake C sp dvs E t σ H Q) ((t σ H fun (vs : List V) (H1 : Hp) => MakeW C sp dvs E vs H1 Q)) := ⟨go_make⟩
instance {σ : L2.St} {H : Hp} {Q : VK} {ta : TE} {t : TA} {m : Str} {C : Addr} {sp : Sp} {dvs : List V} {E : XK} : Go (tMeth C m sp dvs E ta t σ H Q) ((ta σ H fun (x : V) (H1 : Hp) => MethW C m sp dvs E t σ x H1 Q)) := ⟨go_meth⟩
instance {H : Hp} {Q : VK} {i j : Int} : Go (rSub (V.int i) (V.int j) H Q) (Q (V.int (i - j)) H) := ⟨go_rSub⟩
instance {H : Hp} {Q : VK} {i j : Int} : Go (rAdd (V.int i) (V.int j) H Q) (Q (V.int (i + j)) H) := ⟨go_rAdd⟩
instance {K : W.Frag} {σ : L2.St} {H : Hp} {D : Ends} {ta tv : TE} {f : Str} {rd : V → V → Hp → VK → Prop} : Go (sFldAug K ta tv rd f D σ H) ((ta σ H fun (x : V) (H1 : Hp) => AFldW K f tv rd D σ x H1)) := ⟨go_faug⟩
instance {K : W.Frag} {σ : L2.St} {H : Hp} {f : Str} {ta : TE} {v : V} {QS : L2.St → Hp → Prop} : Go (gFld K ta f v σ H QS) ((ta σ H fun (x : V) (H1 : Hp) => GFldW K f v σ x H1 QS)) := ⟨go_gfld⟩
instance {σ : L2.St} {H : Hp} {Q : VK} : Go (tDNewK σ H Q) (NewO (HO.dK []) H Q) := ⟨go_dnewK⟩
instance {σ : L2.St} {H : Hp} {Q : VK} {td ty tx : TE} : Go (tDGet2 td ty tx σ H Q) ((td σ H fun (x : V) (H1 : Hp) => Dg2W ty tx σ x H1 Q)) := ⟨go_dget2⟩
instance {K : W.Frag} {σ : L2.St} {H : Hp} {D : Ends} {ta tv : TE} {f : Str} : Go (sFld K ta tv f D σ H) ((tv σ H fun (y : V) (H1 : Hp) => ta σ H1 fun (x : V) (H2 : Hp) => SFldW K f y D σ x H2)) := ⟨go_sfld⟩
instance {K : W.Frag} {σ : L2.St} {H : Hp} {Q : VK} {ta : TE} {f : Str} : Go (tFld K ta f σ H Q) ((ta σ H fun (x : V) (H1 : Hp) => FldW K f x H1 Q)) := ⟨go_fld⟩
instance {H : Hp} {Q : VK} {a b : Int} : Go (rMn2 [V.int a, V.int b] H Q) (Q (V.int (min a b)) H) := ⟨go_min⟩
instance {H : Hp} {Q : VK} {a b : Int} : Go (rMx2 [V.int a, V.int b] H Q) (Q (V.int (max a b)) H) := ⟨go_max⟩
instance {ta : TA} {σ : L2.St} {H : Hp} {R : It → Hp → Prop} : Go (iRng2 ta σ H R) ((ta σ H fun (vs : List V) (H1 : Hp) => RN2 vs H1 R)) := ⟨go_rng2⟩
instance {ta : TA} {σ : L2.St} {H : Hp} {R : It → Hp → Prop} : Go (iRng1 ta σ H R) ((ta σ H fun (vs : List V) (H1 : Hp) => RN1 vs H1 R)) := ⟨go_rng1⟩
instance {K : W.Frag} {H : Hp} {σ : L2.St} {tl : TE} {R : It → Hp → Prop} : Go (iX K tl σ H R) ((tl σ H fun (x : V) (H1 : Hp) => IX K x H1 R)) := ⟨go_iX⟩
instance {H : Hp} {Q : VK} {σ : L2.St} {wi : TI} {g : TG} {tt : TT} {te : TE} {vs : List Nat} : Go (tLc wi g tt te vs σ H Q) ((wi σ H fun (J : It) (H1 : Hp) => LcW J g tt te vs σ H1 Q)) := ⟨go_lc⟩
instance {H : Hp} {σ : L2.St} {D : Ends} {wi : TI} {g : TG} {tb : TS} : Go (tFor wi g tb D σ H) ((wi σ H fun (J : It) (H1 : Hp) => ForW J g tb D σ H1)) := ⟨go_for⟩
instance {D : Ends} {σ : L2.St} {H : Hp} : Go (tNext D σ H) (Ends.nx D σ H) := ⟨go_next⟩
instance {σ : L2.St} {H : Hp} {R : List (V × V) → Hp → Prop} : Go (tPairs [] σ H R) (R [] H) := ⟨go_pairs0⟩
instance {σ : L2.St} {H : Hp} {tk tv : TE} {r : List (TE × TE)} {R : List (V × V) → Hp → Prop} : Go (tPairs ((tk, tv) :: r) σ H R) ((tk σ H fun (k : V) (H1 : Hp) => tv σ H1 fun (v : V) (H2 : Hp) => tPairs r σ H2 fun (ps : List (V × V)) (H3 : Hp) => R ((k, v) :: ps) H3)) := ⟨go_pairs⟩
instance {σ : L2.St} {H : Hp} {Q : VK} {trs : List (TE × TE)} : Go (tDisp trs σ H Q) (DispN trs σ H Q) := ⟨go_disp⟩
instance {H : Hp} {Q : VK} {a b c : Int} : Go (rMx3 [V.int a, V.int b, V.int c] H Q) (Q (V.int (max a (max b c))) H) := ⟨go_max3⟩
instance {H : Hp} {Q : VK} {a b c : Int} : Go (rMn3 [V.int a, V.int b, V.int c] H Q) (Q (V.int (min a (min b c))) H) := ⟨go_min3⟩
instance {H : Hp} {i : Int} {R : Option Int → Hp → Prop} : Go (PartI (V.int i) H R) (R (some i) H) := ⟨go_partI⟩
instance {σ : L2.St} {H : Hp} {t : TE} {R : Option Int → Hp → Prop} : Go (tPart t σ H R) ((t σ H fun (x : V) (H1 : Hp) => PartI x H1 R)) := ⟨go_part⟩
instance {σ : L2.St} {H : Hp} {R : Option Int → Hp → Prop} : Go (tNoPart σ H R) (R none H) := ⟨go_nopart⟩
instance {σ : L2.St} {H : Hp} {Q : VK} {r : V → Option Int → Option Int → Hp → VK → Prop} {te : TE} {tl th : TO} : Go (tSl r te tl th σ H Q) ((te σ H fun (x : V) (H1 : Hp) => tl σ H1 fun (l : Option Int) (H2 : Hp) => th σ H2 fun (u : Option Int) (H3 : Hp) => r x l u H3 Q)) := ⟨go_sl⟩
instance {H : Hp} {Q : VK} {k : Bool} : Go (rIntX [V.bl k] H Q) (Q (V.int (if k = true then 1 else 0)) H) := ⟨go_intB⟩
instance {H : Hp} {Q : VK} {i : Int} : Go (rIntX [V.int i] H Q) (Q (V.int i) H) := ⟨go_intI⟩
instance {σ : L2.St} {H : Hp} {v : V} {QS : L2.St → Hp → Prop} {to ti : TE} {ps : TSet} : Go (gSub to ti ps v σ H QS) ((to σ H fun (o : V) (H1 : Hp) => ti σ H1 fun (i : V) (H2 : Hp) => ps o i v H2 fun (H3 : Hp) => QS σ H3)) := ⟨go_sub⟩
instance {σ : L2.St} {H : Hp} {QS : L2.St → Hp → Prop} : Go (gNil [] σ H QS) (QS σ H) := ⟨go_gnil⟩
instance {σ : L2.St} {H : Hp} {g : TG} {v : V} {QS : L2.St → Hp → Prop} {tg : TGs} {vs : List V} : Go (gCons g tg (v :: vs) σ H QS) ((g v σ H fun (σ' : L2.St) (H' : Hp) => tg vs σ' H' QS)) := ⟨go_gcons⟩
instance {H : Hp} {Q : VK} {f : Int → V} {a : Int} : Go (rU f (V.int a) H Q) (Q (f a) H) := ⟨go_U⟩
instance {σ : L2.St} {H : Hp} {ta : TE} {Q : VK} {ru : V → Hp → VK → Prop} : Go (tUn ru ta σ H Q) ((ta σ H fun (x : V) (H1 : Hp) => ru x H1 Q)) := ⟨go_un⟩
instance {D : Ends} {σ : L2.St} {H : Hp} {te : TE} : Go (tDrop te D σ H) ((te σ H fun (x : V) (H1 : Hp) => Ends.nx D σ H1)) := ⟨go_drop⟩
instance {σ : L2.St} {H : Hp} {ta tb tc : TE} {Q : VK} {r r' : R2} : Go (tChain r r' ta tb tc σ H Q) ((ta σ H fun (x : V) (H1 : Hp) => tb σ H1 fun (y : V) (H2 : Hp) => r x y H2 fun (z : V) (H3 : Hp) => KB z H3 fun (k : Bool) (H3 : Hp) => if k = true then tc σ H3 fun (w' : V) (H4 : Hp) => r' y w' H4 Q else Q (V.bl false) H3)) := ⟨go_chain⟩
instance {K : W.Frag} {H : Hp} {i : Int} {QB : Bool → Hp → Prop} : Go (A.KT K (V.int i) H QB) (QB (i != 0) H) := ⟨go_truI⟩
instance {K : W.Frag} {H : Hp} {b : Bool} {QB : Bool → Hp → Prop} : Go (A.KT K (V.bl b) H QB) (QB b H) := ⟨go_truB⟩
instance {K : W.Frag} {H : Hp} {te : TE} {σ : L2.St} {QB : Bool → Hp → Prop} : Go (tTruX K te σ H QB) ((te σ H fun (x : V) (H' : Hp) => A.KT K x H' QB)) := ⟨go_tru⟩
instance {σ : L2.St} {H : Hp} {ta : TE} {Q : VK} : Go (tNotV ta σ H Q) ((ta σ H fun (x : V) (H1 : Hp) => KB x H1 fun (c : Bool) (H1 : Hp) => Q (V.bl !c) H1)) := ⟨go_notV⟩
instance {σ : L2.St} {H : Hp} {tt : TT} {QB : Bool → Hp → Prop} : Go (tNot tt σ H QB) ((tt σ H fun (c : Bool) (H1 : Hp) => QB (!c) H1)) := ⟨go_not⟩
instance {σ : L2.St} {H : Hp} {Q : VK} {ts : TA} : Go (tLst ts σ H Q) ((ts σ H fun (xs : List V) (H1 : Hp) => NewL xs H1 Q)) := ⟨go_lst⟩
instance {σ : L2.St} {H : Hp} {Q : VK} {ts : TA} : Go (tTup ts σ H Q) ((ts σ H fun (xs : List V) (H1 : Hp) => NewT xs H1 Q)) := ⟨go_tup⟩
instance {σ : L2.St} {H : Hp} {Q : VK} {ts : TA} {rc : List V → Hp → VK → Prop} : Go (tCB rc ts σ H Q) ((ts σ H fun (vs : List V) (H1 : Hp) => rc vs H1 Q)) := ⟨go_CB⟩
instance {σ : L2.St} {H : Hp} {Q : VK} {ts : TA} {sp : Sp} {dvs : List V} {E : XK} : Go (tCall sp dvs E ts σ H Q) ((ts σ H fun (vs : List V) (H1 : Hp) => sp (vs ++ dvs) H1 Q E)) := ⟨go_call⟩
instance {σ : L2.St} {H : Hp} {QL : List V → Hp → Prop} : Go (tNil σ H QL) (QL [] H) := ⟨go_nil⟩
instance {σ : L2.St} {H : Hp} {te : TE} {ts : TA} {QL : List V → Hp → Prop} : Go (tCons te ts σ H QL) ((te σ H fun (x : V) (H1 : Hp) => ts σ H1 fun (xs : List V) (H2 : Hp) => QL (x :: xs) H2)) := ⟨go_cons⟩
instance {D : Ends} {σ : L2.St} {H : Hp} : Go (tRetN D σ H) (Ends.rt D V.non H) := ⟨go_retN⟩
instance {D : Ends} {σ : L2.St} {H : Hp} {te : TE} : Go (tRet te D σ H) (te σ H (Ends.rt D)) := ⟨go_ret⟩
instance {K : W.Frag} {H : Hp} {Q : VK} {a b : Bool} : Go (rIsNotX K (V.bl a) (V.bl b) H Q) (Q (V.bl !decide (a = b)) H) := ⟨go_notB⟩
instance {K : W.Frag} {H : Hp} {Q : VK} {a b : Bool} : Go (rIsX K (V.bl a) (V.bl b) H Q) (Q (V.bl (decide (a = b))) H) := ⟨go_isB⟩
instance {K : W.Frag} {H : Hp} {Q : VK} {x : V} : Go (rIsNotX K x V.non H Q) (Q (V.bl !decide (x = V.non)) H) := ⟨go_notN⟩
instance {K : W.Frag} {H : Hp} {Q : VK} {x : V} : Go (rIsX K x V.non H Q) (Q (V.bl (decide (x = V.non))) H) := ⟨go_isN⟩
instance {H : Hp} {QB : Bool → Hp → Prop} {b : Bool} : Go (KB (V.bl b) H QB) (QB b H) := ⟨go_bl⟩
instance {σ : L2.St} {H : Hp} {te : TE} {QB : Bool → Hp → Prop} : Go (tTest te σ H QB) ((te σ H fun (x : V) (H' : Hp) => KB x H' QB)) := ⟨go_test⟩
instance {t u : TS} {D : Ends} {σ : L2.St} {H : Hp} {tt : TT} : Go (tIfS tt t u D σ H) ((tt σ H fun (b : Bool) (H1 : Hp) => if b = true then t D σ H1 else u D σ H1)) := ⟨go_if⟩
instance {K : W.Frag} {H : Hp} {Q : VK} {a b : Int} : Go (rAddX K (V.int a) (V.int b) H Q) (Q (V.int (a + b)) H) := ⟨go_addI⟩
instance {H : Hp} {Q : VK} {f : Int → Int → V} {a b : Int} : Go (rI0 f (V.int a) (V.int b) H Q) (Q (f a b) H) := ⟨go_I0⟩
instance {σ : L2.St} {H : Hp} {v : V} {Q : VK} : Go (tC v σ H Q) (Q v H) := ⟨go_c⟩
instance {σ : L2.St} {H : Hp} {ta tb : TE} {Q : VK} {r : R2} : Go (tOp r ta tb σ H Q) ((ta σ H fun (x : V) (H1 : Hp) => tb σ H1 fun (y : V) (H2 : Hp) => r x y H2 Q)) := ⟨go_op⟩
instance {D : Ends} {σ : L2.St} {H : Hp} {te : TE} {g : TG} : Go (tAsg te g D σ H) ((te σ H fun (x : V) (H1 : Hp) => g x σ H1 (Ends.nx D))) := ⟨go_asg⟩
instance {t u : TS} {D : Ends} {σ : L2.St} {H : Hp} : Go (tSeq t u D σ H) (t (Ends.mk (u D) (Ends.rt D) (Ends.bk D) (Ends.ct D)) σ H) := ⟨go_seq⟩
instance {b : Bool} {A B : Prop} : Go (if (false && b) = true then A else B) (B) := ⟨ifa_f⟩
instance {b : Bool} {A B : Prop} : Go (if (true && b) = true then A else B) ((if b = true then A else B)) := ⟨ifa_t⟩
instance {b : Bool} {A B : Prop} : Go (if (false || b) = true then A else B) ((if b = true then A else B)) := ⟨ifo_f⟩
instance {b : Bool} {A B : Prop} : Go (if (true || b) = true then A else B) (A) := ⟨ifo_t⟩
instance {A B : Prop} : Go (if (!decide (V.non = V.non)) = true then A else B) (B) := ⟨ifM_non⟩
instance {A B : Prop} : Go (if decide (V.non = V.non) = true then A else B) (A) := ⟨ifN_non⟩
instance {a : Bool} {A B : Prop} : Go (if (!decide (V.bl a = V.non)) = true then A else B) (A) := ⟨ifM_bl⟩
instance {a : Bool} {A B : Prop} : Go (if decide (V.bl a = V.non) = true then A else B) (B) := ⟨ifN_bl⟩
instance {a : Str} {A B : Prop} : Go (if (!decide (V.str a = V.non)) = true then A else B) (A) := ⟨ifM_str⟩
instance {a : Str} {A B : Prop} : Go (if decide (V.str a = V.non) = true then A else B) (B) := ⟨ifN_str⟩
instance {a : Int} {A B : Prop} : Go (if (!decide (V.int a = V.non)) = true then A else B) (A) := ⟨ifM_int⟩
instance {a : Int} {A B : Prop} : Go (if decide (V.int a = V.non) = true then A else B) (B) := ⟨ifN_int⟩
instance {a : Addr} {A B : Prop} : Go (if (!decide (V.ref a = V.non)) = true then A else B) (A) := ⟨ifM_ref⟩
instance {a : Addr} {A B : Prop} : Go (if decide (V.ref a = V.non) = true then A else B) (B) := ⟨ifN_ref⟩
end L2.A

namespace L2.A
open PySem PySem.Spec PyProof.Rows
/-- what a word of the slow kind may serve -/
class More (G : Prop) : Prop where
  go : G → G
instance {x0 x1 x2 x3} : More (rAppend x0 x1 x2 x3) := ⟨id⟩
instance {x0 x1 x2 x3 x4 x5} : More (BmW0 x0 x1 x2 x3 x4 x5) := ⟨id⟩
instance {x0 x1 x2 x3 x4 x5 x6 x7} : More (BmW x0 x1 x2 x3 x4 x5 x6 x7) := ⟨id⟩
instance {x0 x1 x2 x3 x4 x5} : More (P2 x0 x1 x2 x3 x4 x5) := ⟨id⟩
instance {x0 x1 x2 x3 x4 x5 x6} : More (P3 x0 x1 x2 x3 x4 x5 x6) := ⟨id⟩
instance {x0 x1 x2 x3 x4 x5} : More (tAug x0 x1 x2 x3 x4 x5) := ⟨id⟩
instance {x0 x1 x2 x3} : More (RvR x0 x1 x2 x3) := ⟨id⟩
instance {x0 x1 x2 x3} : More (rIsiY x0 x1 x2 x3) := ⟨id⟩
instance {x0 x1 x2 x3 x4} : More (XqW x0 x1 x2 x3 x4) := ⟨id⟩
instance {x0 x1 x2 x3 x4 x5 x6 x7 x8 x9} : More (MethSW x0 x1 x2 x3 x4 x5 x6 x7 x8 x9) := ⟨id⟩
instance {x0 x1 x2 x3 x4 x5 x6 x7 x8 x9} : More (MethW x0 x1 x2 x3 x4 x5 x6 x7 x8 x9) := ⟨id⟩
instance {x0 x1 x2 x3 x4 x5 x6} : More (AStW x0 x1 x2 x3 x4 x5 x6) := ⟨id⟩
instance {x0 x1 x2 x3 x4 x5 x6 x7} : More (AFldW x0 x1 x2 x3 x4 x5 x6 x7) := ⟨id⟩
instance {x0 x1 x2 x3 x4 x5 x6} : More (GFldW x0 x1 x2 x3 x4 x5 x6) := ⟨id⟩
instance {x0 x1 x2 x3 x4 x5 x6} : More (SFldW x0 x1 x2 x3 x4 x5 x6) := ⟨id⟩
instance {x0 x1 x2 x3 x4} : More (FldW x0 x1 x2 x3 x4) := ⟨id⟩
instance {x0 x1 x2 x3} : More (rLenX x0 x1 x2 x3) := ⟨id⟩
instance {x0 x1 x2 x3} : More (rIsiX x0 x1 x2 x3) := ⟨id⟩
instance {x0 x1 x2} : More (rAbsI x0 x1 x2) := ⟨id⟩
instance {x0 x1 x2} : More (tYes x0 x1 x2) := ⟨id⟩
instance {x0 x1 x2} : More (RN2 x0 x1 x2) := ⟨id⟩
instance {x0 x1 x2} : More (RN1 x0 x1 x2) := ⟨id⟩
instance {x0 x1 x2 x3} : More (DispK x0 x1 x2 x3) := ⟨id⟩
instance {x0 x1 x2 x3 x4 x5} : More (rSlX x0 x1 x2 x3 x4 x5) := ⟨id⟩
instance {x0 x1 x2 x3 x4 x5 x6} : More (gTupA x0 x1 x2 x3 x4 x5 x6) := ⟨id⟩
instance {x0 x1 x2 x3 x4 x5 x6} : More (gTup x0 x1 x2 x3 x4 x5 x6) := ⟨id⟩
instance {x0 x1 x2 x3 x4} : More (rIxX x0 x1 x2 x3 x4) := ⟨id⟩
instance {x0 x1 x2 x3 x4 x5} : More (tIf x0 x1 x2 x3 x4 x5) := ⟨id⟩
instance {x0 x1 x2 x3 x4} : More (tOrV x0 x1 x2 x3 x4) := ⟨id⟩
instance {x0 x1 x2 x3 x4} : More (tAndV x0 x1 x2 x3 x4) := ⟨id⟩
instance {x0 x1 x2 x3 x4} : More (tOr x0 x1 x2 x3 x4) := ⟨id⟩
instance {x0 x1 x2 x3 x4} : More (tAnd x0 x1 x2 x3 x4) := ⟨id⟩
instance {x0 x1 x2} : More (NewL x0 x1 x2) := ⟨id⟩
instance {x0 x1 x2} : More (NewT x0 x1 x2) := ⟨id⟩
instance {x0 x1 x2 x3 x4} : More (rNeX x0 x1 x2 x3 x4) := ⟨id⟩
instance {x0 x1 x2 x3 x4} : More (rEqX x0 x1 x2 x3 x4) := ⟨id⟩
instance {x0 x1 x2 x3 x4 x5} : More (rI x0 x1 x2 x3 x4 x5) := ⟨id⟩
instance {x0 x1 x2 x3} : More (rMulX x0 x1 x2 x3) := ⟨id⟩
instance {x0 x1 x2 x3 x4} : More (gName x0 x1 x2 x3 x4) := ⟨id⟩
instance {x0 x1 x2 x3} : More (tVar x0 x1 x2 x3) := ⟨id⟩
instance {x0 x1 x2} : More (NewO x0 x1 x2) := ⟨id⟩
instance {x0 x1 x2 x3 x4} : More (Dg2K x0 x1 x2 x3 x4) := ⟨id⟩
instance {x0 x1 x2 x3 x4 x5} : More (Dg2W x0 x1 x2 x3 x4 x5) := ⟨id⟩
instance {x0 x1 x2 x3 x4} : More (rNotInX x0 x1 x2 x3 x4) := ⟨id⟩
instance {x0 x1 x2 x3 x4} : More (rInX x0 x1 x2 x3 x4) := ⟨id⟩
instance {x0 x1 x2 x3 x4} : More (rSetX x0 x1 x2 x3 x4) := ⟨id⟩
instance {c : Prop} [Decidable c] {A B : Prop} : More (if c then A else B) := ⟨id⟩
instance {A B : Prop} : More (A ∨ B) := ⟨id⟩
end L2.A


namespace L2.A
open PySem PySem.Spec PyProof.Rows
/-! ### sorted of any number of whole numbers; a chain of three comparisons -/
theorem go_sortedI {K : PySem.W.Frag} {H : Hp} {Q : VK} {a : Addr} {ns : List Int} (hS : SqL K H a (ns.map V.int)) (h : ∀ (ns' : List Int) (p : Addr), ns'.Perm ns → ns'.Pairwise (· ≤ ·) → H p = none → Q (.ref p) (upd H p (.lst (ns'.map V.int)))) : rSortedI K [.ref a] H Q := ⟨a, ns, rfl, hS, h⟩
section
variable {X : Cx} {a b c d : Expr} {ta tb tc td : TE} {pos : Pos}
def tChain3 (r r' r'' : R2) (ta tb tc td : TE) : TT := fun σ H Q => ta σ H fun x H1 => tb σ H1 fun y H2 => r x y H2 fun z H3 => KB z H3 fun k H3 =>
  if k = true then tc σ H3 fun w H4 => r' y w H4 fun z' H5 => KB z' H5 fun k' H5 => if k' = true then td σ H5 fun u H6 => r'' w u H6 fun z2 H7 => KB z2 H7 Q else Q false H5 else Q false H3
theorem pt_chain3 {op op' op'' : CmpOp} {r r' r'' : R2} (ho : OpR X (compareOp op) r) (ho' : OpR X (compareOp op') r') (ho'' : OpR X (compareOp op'') r'') (ha : PE X a ta) (hb : PE X b tb) (hc : PE X c tc) (hd : PE X d td)
    (hm : lastMarks [op, op', op''] [b, c, d] = false := by with_unfolding_all rfl) : PT X (.Compare a [op, op', op''] [b, c, d] pos) (tChain3 r r' r'' ta tb tc td) := by
  refine ⟨fun pins s σ H Q I h => ?_⟩
  refine isTrue_chain (thn (ha.run pins s σ H _ I h) fun v s1 ⟨x, H1, I1, r1, q1⟩ => test_link (thn (hb.run pins s1 σ H1 _ I1 q1) fun u s2 ⟨y, H2, I2, r2, q2⟩ =>
    thn (ho pins s2 σ H2 x y v u _ I2 r1 r2 q2) fun d s3 ⟨z, H3, I3, r3, k, e, q3⟩ => ?_)) hm
  subst e
  cases r3
  refine wpAny_truthy_bool ?_
  cases k with
  | false => exact ite_ff ⟨H3, I3, q3⟩
  | true =>
    refine ite_tt (test_link (thn (hc.run pins s3 σ H3 _ I3 q3) fun w' s4 ⟨z', H4, I4, r4, q4⟩ => thn (ho' pins s4 σ H4 y z' u w' _ I4 r2 r4 q4) fun d' s5 ⟨z2, H5, I5, r5, k2, e2, q5⟩ => ?_))
    subst e2
    cases r5
    refine wpAny_truthy_bool ?_
    cases k2 with
    | false => exact ite_ff ⟨H5, I5, q5⟩
    | true =>
      refine ite_tt (test_last (thn (hd.run pins s5 σ H5 _ I5 q5) fun w3 s6 ⟨z3, H6, I6, r6, q6⟩ => thn (ho'' pins s6 σ H6 z' z3 w' w3 _ I6 r4 r6 q6) fun d3 s7 ⟨z4, H7, I7, r7, k3, e3, q7⟩ => ?_))
      subst e3
      cases r7
      exact wpAny_truthy_bool ⟨H7, I7, q7⟩
theorem go_chain3 {r r' r'' : R2} {σ : L2.St} {H : Hp} {Q : Bool → Hp → Prop} (h : ta σ H fun x H1 => tb σ H1 fun y H2 => r x y H2 fun z H3 => KB z H3 fun k H3 =>
  if k = true then tc σ H3 fun w H4 => r' y w H4 fun z' H5 => KB z' H5 fun k' H5 => if k' = true then td σ H5 fun u H6 => r'' w u H6 fun z2 H7 => KB z2 H7 Q else Q false H5 else Q false H3) : tChain3 r r' r'' ta tb tc td σ H Q := h
instance {r r' r'' : R2} {σ : L2.St} {H : Hp} {Q : Bool → Hp → Prop} : Go (tChain3 r r' r'' ta tb tc td σ H Q) (ta σ H fun x H1 => tb σ H1 fun y H2 => r x y H2 fun z H3 => KB z H3 fun k H3 =>
  if k = true then tc σ H3 fun w H4 => r' y w H4 fun z' H5 => KB z' H5 fun k' H5 => if k' = true then td σ H5 fun u H6 => r'' w u H6 fun z2 H7 => KB z2 H7 Q else Q false H5 else Q false H3) := ⟨id⟩
end
end L2.A


namespace L2.A
open PySem PySem.Spec PyProof.Rows
/-! ### x in l where the items are data of any depth and x is shallow -/
section
variable {X : Cx}
def rInE (K : PySem.W.Frag) : R2 := fun x y H Q => ∃ d ds, Dp K H x d ∧ Dp K H y (.list ds) ∧ d.canLay0 = true ∧ d.depth ≤ 60 ∧ PyData.canLayAll0 ds = true ∧ Q (.bl (ds.any fun z => PyData.eqv z d)) H
theorem op_inE (hu : X.A.units + 64 < cLine) : OpR X (compareOp .In) (rInE X.K) := by
  intro pins s σ H x y v u Q I rx ry h
  obtain ⟨d, ds, hd, he, sd, dd, se, q⟩ := h
  obtain ⟨as, r1⟩ := Dp.reads I d x v hd rx
  obtain ⟨bs, r2⟩ := Dp.reads I (.list ds) y u he ry
  refine SeqAt.in_list_reads r2 r1 se sd ?_ ⟨.bl _, H, I, rfl, q⟩
  have := Nat.min_le_right (PyData.depthAll ds) d.depth
  omega
theorem go_inE {K : PySem.W.Frag} {H : Hp} {Q : VK} {x y : V} {d : PyData} {ds : List PyData} (hx : Dp K H x d) (hy : Dp K H y (.list ds)) (s1 : d.canLay0 = true) (s2 : d.depth ≤ 60) (s3 : PyData.canLayAll0 ds = true) (h : Q (.bl (ds.any fun z => PyData.eqv z d)) H) : rInE K x y H Q := ⟨d, ds, hx, hy, s1, s2, s3, h⟩
end
end L2.A


namespace L2.A
open PySem PySem.Spec PyProof.Rows
/-! ### xs[a:b] = ys -/
section
variable {X : Cx} {e lo hi : Expr} {te tl th : TE} {p2 pos : Pos}
def SlcW (v x : V) (lo hi : Option Int) (σ : St) (H3 : Hp) (QS : St → Hp → Prop) : Prop := ∃ (l b : Addr) (xs ys : List V) (a c : Int), x = .ref l ∧ v = .ref b ∧ lo = some a ∧ hi = some c ∧ H3 l = some (.lst xs) ∧ H3 b = some (.lst ys) ∧ l ≠ b ∧ 0 ≤ a ∧ a ≤ c ∧ c ≤ xs.length ∧ xs.length + ys.length ≤ sizeLine ∧
  QS σ (upd H3 l (.lst (xs.take a.toNat ++ ys ++ xs.drop c.toNat)))
def gSlc (te : TE) (tl th : TO) : TG := fun v σ H QS => te σ H fun x H1 => tl σ H1 fun lo H2 => th σ H2 fun hi H3 => SlcW v x lo hi σ H3 QS
theorem pg_slc {tl th : TO} (he : PE X e te) (hl : PO X (some lo) tl) (hh : PO X (some hi) th)
    (ha : ∀ v, assign (.Subscript e (.Slice (some lo) (some hi) none p2) pos) X.env v = (do
      let ov ← holding [v] (eval e X.env)
      let iv ← holding [v, ov] (eval (.Slice (some lo) (some hi) none p2) X.env)
      standAt pos
      holding [v, ov, iv] (setItem ov iv v)
      release [iv, v, ov] []) := by intro _; rfl) : PG X (.Subscript e (.Slice (some lo) (some hi) none p2) pos) (gSlc te tl th) := by
  refine ⟨fun pins s σ H v u Q I r h => ?_⟩
  rw [ha]
  refine wpAny_bind (wpAny_holding (thn (he.run pins s σ H _ I h) fun ov s1 ⟨x, H1, I1, r1, q1⟩ => ?_))
  refine wpAny_bind (wpAny_holding (wpAny_Slice (thn (hl.run pins s1 σ H1 _ I1 q1) fun vl s2 ⟨l, H2, I2, pl, q2⟩ => thn (hh.run pins s2 σ H2 _ I2 q2) fun vu s3 ⟨w, H3, I3, pu, q3⟩ => ?_)))
  rw [evalPart_none]
  refine wpAny_pure ?_
  obtain ⟨L, b, xs, ys, a, c, rfl, rfl, rfl, rfl, e1, e2, ne, h0, hac, hc, hz, q⟩ := q3
  have I4 : Inv X pins σ H3 { s3 with heap := s3.heap.push { cls := .type "slice", data := .fields #[vl, vu, .none] } } := I3.kept (t' := s3.toks) fun b ob q => Heap.get?_push_of_some _ q
  obtain rfl : ov = Value.ref L := r1
  obtain rfl : u = Value.ref b := r
  have ra : RelV (.int a) vl := by cases pl; exact ⟨_, rfl⟩
  have rc : RelV (.int c) vu := by cases pu; exact ⟨_, rfl⟩
  refine wpAny_bind (wpAny_standAt (wpAny_bind (wpAny_holding (set_slice I4 e1 e2 ne (Heap.IsSliceOf.new ..) ra rc h0 hac hc hz fun s4 I5 => ?_))))
  exact wpAny_release ⟨σ, _, I5, q⟩
theorem go_slc {tl th : TO} {v : V} {σ : St} {H : Hp} {QS : St → Hp → Prop} (h : te σ H fun x H1 => tl σ H1 fun lo H2 => th σ H2 fun hi H3 => SlcW v x lo hi σ H3 QS) : gSlc te tl th v σ H QS := h
instance {tl th : TO} {v : V} {σ : L2.St} {H : Hp} {QS : L2.St → Hp → Prop} : Go (gSlc te tl th v σ H QS) (te σ H fun x H1 => tl σ H1 fun lo H2 => th σ H2 fun hi H3 => SlcW v x lo hi σ H3 QS) := ⟨go_slc⟩
/-- the list and what is put in are both alive -/
theorem go_slcS {F : Hp} {L R : Cells} {H : Hp} {l b : Addr} {xs ys : List V} {a c : Nat} {σ : St} {QS : St → Hp → Prop} (st : Sta F L H) (p : L.Perm ((l, .lst xs) :: R)) (eb : F b = some (.lst ys)) (hac : a ≤ c) (hc : c ≤ xs.length) (hz : xs.length + ys.length ≤ 100000)
    (h : ∀ H', Sta F ((l, .lst (xs.take a ++ ys ++ xs.drop c)) :: R) H' → QS σ H') : SlcW (.ref b) (.ref l) (some (a : Int)) (some (c : Int)) σ H QS := by
  have st' := st.perm p
  have el := st'.get (p := l) (.head _)
  refine ⟨l, b, xs, ys, a, c, rfl, rfl, rfl, rfl, el, st.of eb, fun e => ?_, by omega, by omega, by omega, Nat.le_trans hz (by decide), ?_⟩
  · subst e
    exact absurd ((st'.off l (List.mem_cons_self ..)).symm.trans eb) (by simp)
  · rw [Int.toNat_natCast, Int.toNat_natCast]
    exact h _ (st'.put .rfl rfl)
end
end L2.A

namespace L2.A
open PySem PySem.Spec PyProof.Rows
/-! ### o[i] op= e -/
theorem get_L {X : Cx} : PGet X (rIxL X.K) := by
  intro pins s σ H x y v u Q I rx ry h
  obtain ⟨p, xs, i, z, rfl, rfl, hq, he, q⟩ := h
  cases rx
  obtain ⟨t, rfl⟩ := ry
  obtain ⟨its, r, pl, hz⟩ := I.list hq
  obtain ⟨j, h1, h2, h3, h4, h5⟩ := atI_get he
  obtain ⟨w, ew, rw'⟩ := r.get h2
  have hl := r.length
  have hn := line63
  have fin : EP X pins σ Q w s := ⟨z, H, I, rw', q⟩
  by_cases h0 : 0 ≤ i
  · have hj : i.toNat = j := by
      rw [seqIndex_of h0 h5] at h1
      exact Option.some.inj h1
    exact wpAny_getItem_list pl.isList h0 (by omega) (by rw [hj]; simpa using ew) fin
  · have hj : (i + (its.toArray.size : Int)).toNat = j := by
      rw [seqIndex_neg (by omega) h4] at h1
      rw [List.size_toArray, ← hl]
      exact Option.some.inj h1
    exact wpAny_getItem_list_neg pl.isList (by omega) (by rw [List.size_toArray] <;> omega) (by omega) (by rw [hj]; simpa using ew) fin
theorem go_xLg {K : PySem.W.Frag} {H : Hp} {Q : VK} {p : Addr} {xs : List V} {i : Int} {v : V} (hS : SqL K H p xs) (e : L2.atI xs i = some v) (h : Q v H) : rIxL K (.ref p) (.int i) H Q := ⟨p, xs, i, v, rfl, rfl, hS, e, h⟩
instance {to ti te : TE} {tget : V → V → Hp → VK → Prop} {tip : TIp} {tset : TSet} {D : Ends} {σ : L2.St} {H : Hp} : Go (tAugS to ti te tget tip tset D σ H) (to σ H fun o H1 => ti σ H1 fun i H2 => tget o i H2 fun x H3 => te σ H3 fun y H4 => tip x y H4 fun z H5 => tset o i z H5 fun H6 => Ends.nx D σ H6) := ⟨id⟩
end L2.A

namespace L2.A
open PySem PySem.Spec PyProof.Rows
/-! ### sorted of a tuple of texts -/
section
variable {X : Cx}
def rSortedT (K : PySem.W.Frag) : List V → Hp → VK → Prop := fun vs H Q => ∃ (a : Addr) (xs : List Str), vs = [V.ref a] ∧ SqT K H a (xs.map V.str) ∧ xs.length < 64 ∧
  ∀ (ys : List Str) (p : Addr), ys.Perm xs → sortedS ys = true → H p = none → Q (.ref p) (upd H p (.lst (ys.map V.str)))
theorem cr_sortedT : CallR X (.builtin "sorted") (rSortedT X.K) := by
  intro pins s σ H vs us Q I r h
  obtain ⟨a, xs, rfl, hs, hz, q⟩ := h
  obtain ⟨its, rv, ht, _⟩ := I.tuple hs
  rw [Vals.ref1 r]
  have hS := rv.strs
  have hlen0 := rv.length
  rw [List.length_map] at hlen0
  have hL : its.length ≤ sizeLine := by rw [← hlen0, sizeLine_eq]; omega
  obtain ⟨o, ho, hc, n, hd⟩ := ht
  refine Calls.call_function_entry kind_sorted plain_sorted entry_sorted (args_sorted1 _) ?_
  unfold Builtin.«sorted»
  refine wpAny_bind (m := checkCount "sorted" 1 1 _) (wpAny_pure ?_)
  refine wpAny_bind (wpAny_collect_seq a (.inr rfl) ho hc hd (fun h' hk => ?_) (by rw [List.size_toArray]; exact hL))
  have I2 : Inv X pins σ H { s with heap := h' } := I.kept (t' := s.toks) hk
  refine wpAny_bind (wpAny_newList ?_)
  have hoL : (h'.push (seqObj "list" its.toArray 0)).get? h'.objs.size = some (seqObj "list" its.toArray 0) := Heap.get?_push_size _ rfl
  refine wpAny_bind (wpAny_holding (wpAny_call_entry slot_list_sort ⟨_, hoL, rfl⟩ entry_list_sort (list_sort_treeK strKind_oneLt hoL hS.keysOf (fun v₁ v₂ rest e => keyKind_strs (by rw [← e]; exact hS)) (by rw [← hlen0]; exact hz) fun st' hp hs' => ⟨_, rfl, ?_⟩) (args_list_sort _)))
  obtain ⟨ys, h1, h2, h3⟩ := sorted_out_str hS hp hs'
  obtain ⟨ep, he'⟩ := sortedHeap_at (out := (arrOf st').map (·.2)) hoL
  have hlen : (ys.map V.str).length ≤ sizeLine := by rw [List.length_map, h2.length_eq, sizeLine_eq]; omega
  refine wpAny_pure ⟨_, rfl, ?_⟩
  refine ⟨.ref _, upd H h'.objs.size (.lst (ys.map V.str)), I2.laid (t' := s.toks) (fun b ob e => ?_) (Nat.le_refl _) ⟨hlen, _, ep, vals_of_strs h1, by rw [Array.toArray_toList]; exact he'⟩, rfl, q ys _ h2 h3 (I2.hok.fresh (Nat.le_refl _))⟩
  have hb := Heap.lt_size e
  rw [sortedHeap_old (Nat.ne_of_lt hb) (by rw [size_push']; exact Nat.lt_succ_of_lt hb)]
  exact Heap.get?_push_of_some _ e
def rSortedQ (K : PySem.W.Frag) : List V → Hp → VK → Prop := fun vs H Q => rSortedS K vs H Q ∨ rSortedT K vs H Q
theorem cr_sortedQ : CallR X (.builtin "sorted") (rSortedQ X.K) := fun pins s σ H vs us Q I r h => h.elim (cr_sortedS pins s σ H vs us Q I r) (cr_sortedT pins s σ H vs us Q I r)
end
end L2.A

namespace L2.A
open PySem PySem.Spec PyProof.Rows
/-! ### d.setdefault with keys of both kinds -/
section
variable {X : Cx} {pins : List (Addr × Obj)} {σ : St} {H : Hp} {s : Shared} {a b : Addr} {r : Value} {d : V} {A : Around} {E : Value → Shared → Prop}
theorem d_setdT {kvs : List (List Key × V)} {k : List Key} {Q : Value → Shared → Prop} (hu : A.units + 1 < cLine) (I : Inv X pins σ H s) (e : H a = some (.dT kvs)) (eb : H b = some (.tup (k.map kV))) (rd : RelV d r) (hl : kvs.length < sizeLine)
    (h1 : ∀ v, valV kvs k = some v → ∀ (w' : Value) (s' : Shared), Inv X pins σ H s' → RelV v w' → Q w' s') (h2 : valV kvs k = none → ∀ (w' : Value) (s' : Shared), Inv X pins σ (upd H a (.dT (putK kvs k d))) s' → RelV d w' → Q w' s') :
    wpAny (model X.prog X.w) A (call (.builtin "dict.setdefault") [.ref a, .ref b, r]) Q E s := by
  obtain ⟨z, hd, xs, rel, dd⟩ := dt_of I.hok e
  have hz : xs.length ≤ sizeLine := by rw [← Paired.length rel]; exact z
  have hl2 : (putK kvs k d).length ≤ sizeLine := by have := length_putK kvs k d; omega
  refine call_setdefault_heap (hsz := hz) (tupleKind_room_in1 hu) (key_of I.hok eb) hd dd (fun p hp => ?_) fun hn h' dd' hs => ?_
  · have q := rel.val k
    rw [hp] at q
    cases q0 : valV kvs k with
    | none => rw [q0] at q; exact (show False from q).elim
    | some v0 => rw [q0] at q; exact h1 v0 q0 _ _ (I.tok _) q
  · have q := rel.val k
    rw [hn] at q
    cases q0 : valV kvs k with
    | some v0 => rw [q0] at q; exact (show False from q).elim
    | none =>
      obtain ⟨q', es, ep, hq, h2', h3, h4, _, h5⟩ := dd'
      refine h2 q0 _ _ (d_write I (by rw [e]; exact True.intro) hs ⟨q', hq⟩ ⟨hl2, hd, _, (rel.put k eb rd).keeps fun c ys ec => ?_, q', es, ep, hq, h2', h3, h4, h5⟩) rd
      rw [upd_ne (ne_of ec e (fun z => nomatch z))]
      exact ec
end
def SdX (a : Addr) (y z : V) (H3 : Hp) (Q : VK) : Prop := (∃ (kvs : List (Key × V)) (k : Key), H3 a = some (.dK kvs) ∧ y = kV k ∧ kvs.length < sizeLine ∧ (∀ v, valV kvs k = some v → Q v H3) ∧ (valV kvs k = none → Q z (upd H3 a (.dK (putK kvs k z))))) ∨
  ∃ (kvs : List (List Key × V)) (k : List Key) (b : Addr), H3 a = some (.dT kvs) ∧ y = .ref b ∧ H3 b = some (.tup (k.map kV)) ∧ kvs.length < sizeLine ∧ (∀ v, valV kvs k = some v → Q v H3) ∧ (valV kvs k = none → Q z (upd H3 a (.dT (putK kvs k z))))
def SdW (ty tx : TE) (σ : St) (x : V) (H1 : Hp) (Q : VK) : Prop := ∃ a, x = .ref a ∧ IsD H1 a ∧ ty σ H1 fun y H2 => tx σ H2 fun z H3 => SdX a y z H3 Q
def tSdX (td ty tx : TE) : TE := fun σ H Q => td σ H fun x H1 => SdW ty tx σ x H1 Q
section
variable {X : Cx} {o e f : Expr} {td ty tx : TE} {apos cpos : Pos}
theorem pe_dsetX (hu : X.A.units + 1 < cLine) (ho : PE X o td) (he : PE X e ty) (hf : PE X f tx) (m : M2 X o "setdefault" apos e f cpos) : PE X (.Call (.Attribute o "setdefault" apos) [e, f] [] cpos) (tSdX td ty tx) := by
  refine ⟨fun pins s σ H Q I h => ?_⟩
  refine wpAny_Call_method m.base m.few m.line PySem.F.plainAttrs_dict PySem.F.slot_dict_setdefault PySem.F.type_dict_setdefault (thn (ho.run pins s σ H _ I h) fun u s1 ⟨x, H1, I1, rx, a, ex, d, q1⟩ => ?_)
  subst ex
  obtain rfl : u = Value.ref a := rx
  obtain ⟨t1, t2, _⟩ := isD_at I1 d
  refine ⟨t1, t2, ?_⟩
  rw [m.trees]
  refine Calls.callWith_builtin rfl (Calls.evalArgs_plain (Calls.spliced_cons (thn (he.run pins s1 σ H1 _ I1 q1) fun iv s2 ⟨y, H2, I2, ry, q2⟩ =>
    Calls.spliced_cons (thn (hf.run pins s2 σ H2 _ I2 q2) fun fv s3 ⟨z, H3, I3, rz, hc⟩ => Calls.spliced_nil ?_))))
  rcases hc with ⟨kvs, k, ea, ey, hl, q3, q4⟩ | ⟨kvs, k, b, ea, ey, eb, hl, q3, q4⟩
  · subst ey
    exact d_setd I3 ea ry rz hl (fun v hv w' s4 I4 rw' => ⟨v, _, I4, rw', q3 v hv⟩) fun hn w' s4 I4 rw' => ⟨z, _, I4, rw', q4 hn⟩
  · subst ey
    obtain rfl : iv = Value.ref b := ry
    exact d_setdT hu I3 ea eb rz hl (fun v hv w' s4 I4 rw' => ⟨v, _, I4, rw', q3 v hv⟩) fun hn w' s4 I4 rw' => ⟨z, _, I4, rw', q4 hn⟩
end
instance {td ty tx : TE} {σ : L2.St} {H : Hp} {Q : VK} : Go (tSdX td ty tx σ H Q) (td σ H fun x H1 => SdW ty tx σ x H1 Q) := ⟨id⟩
theorem go_sdK {ty tx : TE} {σ : St} {H : Hp} {Q : VK} {a : Addr} {kvs : List (Key × V)} (e : H a = some (.dK kvs)) (h : ty σ H fun y H2 => tx σ H2 fun z H3 => SdX a y z H3 Q) : SdW ty tx σ (.ref a) H Q := ⟨a, rfl, .inl ⟨kvs, .inl e⟩, h⟩
theorem go_sdT {ty tx : TE} {σ : St} {H : Hp} {Q : VK} {a : Addr} {kvs : List (List Key × V)} (e : H a = some (.dT kvs)) (h : ty σ H fun y H2 => tx σ H2 fun z H3 => SdX a y z H3 Q) : SdW ty tx σ (.ref a) H Q := ⟨a, rfl, .inr ⟨kvs, .inl e⟩, h⟩
section
variable {F : Hp} {L R : Cells} {H : Hp} {a b : Addr} {z v : V} {Q : VK}
/-- the key is there -/
theorem go_sdThere {kvs : List (List Key × V)} (k : List Key) (st : Sta F L H) (p : L.Perm ((a, .dT kvs) :: R)) (eb : F b = some (.tup (k.map kV))) (s : kvs.length ≤ 100000) (e : valV kvs k = some v) (h : Q v H) : SdX a (.ref b) z H Q :=
  .inr ⟨kvs, k, b, (st.perm p).get (.head _), rfl, st.of eb, Nat.lt_of_le_of_lt s (by decide), fun w hw => (by rw [e] at hw; cases hw; exact h), fun hn => (by rw [e] at hn; cases hn)⟩
theorem go_sdNew {kvs : List (List Key × V)} (k : List Key) (st : Sta F L H) (p : L.Perm ((a, .dT kvs) :: R)) (eb : F b = some (.tup (k.map kV))) (s : kvs.length ≤ 100000) (e : valV kvs k = none) (h : ∀ H', Sta F ((a, .dT (kvs ++ [(k, z)])) :: R) H' → Q z H') : SdX a (.ref b) z H Q :=
  .inr ⟨kvs, k, b, (st.perm p).get (.head _), rfl, st.of eb, Nat.lt_of_le_of_lt s (by decide), fun w hw => (by rw [e] at hw; cases hw), fun _ => (by
    have : putK kvs k z = kvs ++ [(k, z)] := by
      unfold putK
      rw [if_neg]
      intro c
      rw [List.any_eq_true] at c
      obtain ⟨x, mx, hx⟩ := c
      have hx := of_decide_eq_true hx
      unfold valV at e
      cases q : kvs.find? fun kv => decide (kv.1 = k) with
      | none => exact absurd (List.find?_eq_none.mp q x mx) (by simp [hx])
      | some y => rw [q] at e; cases e
    rw [this]
    exact h _ (st.put p rfl))⟩
theorem go_sdThereK {kvs : List (Key × V)} (k : Key) (st : Sta F L H) (p : L.Perm ((a, .dK kvs) :: R)) (s : kvs.length ≤ 100000) (e : valV kvs k = some v) (h : Q v H) : SdX a (kV k) z H Q :=
  .inl ⟨kvs, k, (st.perm p).get (.head _), rfl, Nat.lt_of_le_of_lt s (by decide), fun w hw => (by rw [e] at hw; cases hw; exact h), fun hn => (by rw [e] at hn; cases hn)⟩
theorem go_sdNewK {kvs : List (Key × V)} (k : Key) (st : Sta F L H) (p : L.Perm ((a, .dK kvs) :: R)) (s : kvs.length ≤ 100000) (e : valV kvs k = none) (h : ∀ H', Sta F ((a, .dK (kvs ++ [(k, z)])) :: R) H' → Q z H') : SdX a (kV k) z H Q :=
  .inl ⟨kvs, k, (st.perm p).get (.head _), rfl, Nat.lt_of_le_of_lt s (by decide), fun w hw => (by rw [e] at hw; cases hw), fun _ => (by
    have : putK kvs k z = kvs ++ [(k, z)] := by
      unfold putK
      rw [if_neg]
      intro c
      rw [List.any_eq_true] at c
      obtain ⟨x, mx, hx⟩ := c
      have hx := of_decide_eq_true hx
      unfold valV at e
      cases q : kvs.find? fun kv => decide (kv.1 = k) with
      | none => exact absurd (List.find?_eq_none.mp q x mx) (by simp [hx])
      | some y => rw [q] at e; cases e
    rw [this]
    exact h _ (st.put p rfl))⟩
end
/-! ### d.items() where the keys are tuples; the dict locked -/
def Itit (d : Addr) (o : Obj) (kvs : List (List Key × V)) : It :=
  ⟨fun i H => H d = some (.frz o (.dT kvs)) ∧ i < kvs.length, fun i H x H' => ∃ T k v q, kvs[i]? = some (k, v) ∧ H q = some (.tup (k.map kV)) ∧ x = .ref T ∧ H T = none ∧ H' = upd H T (.tup [.ref q, v]), fun i H => H d = some (.frz o (.dT kvs)) ∧ kvs.length ≤ i⟩
section
variable {X : Cx} {pins : List (Addr × Obj)} {σ : St} {H : Hp} {s : Shared} {d : Addr} {o : Obj}
theorem Inv.frzTV {kvs : List (List Key × V)} (I : Inv X pins σ H s) (h : H d = some (.frz o (.dT kvs))) :
    (d == sysModules) = false ∧ s.heap.get? d = some o ∧ o.ExactDict ∧ ∃ (es : Array DictEntry) (ep : Nat), o.data = .dict es ep ∧ es.size = kvs.length ∧
      ∀ (i : Nat) (k : List Key) (v : V), kvs[i]? = some (k, v) → ∃ (en : DictEntry) (q : Addr), es[i]? = some en ∧ en.key = .ref q ∧ H q = some (.tup (k.map kV)) ∧ RelV v en.val := by
  obtain ⟨hd, z, hs, xs, pr, o', es, ep, ho, hx, hdt, he, _⟩ := I.hok d _ h
  rw [hd] at ho
  cases ho
  refine ⟨hs, hd, hx, es, ep, hdt, ?_, fun i k v e => ?_⟩
  · have l1 : es.size = xs.length := size_of_entries he
    have l2 : kvs.length = xs.length := Paired.length pr
    omega
  · obtain ⟨b, hb, e1, e2, e3⟩ := paired_get pr e
    have q := entry_at he i
    rw [hb] at q
    exact ⟨_, b.2.1, q, rfl, e2, e3⟩
end
end L2.A

namespace L2.A
open PySem PySem.Spec PyProof.Rows
section
variable {P : Program} {w : World} {K : PySem.W.Frag} {d : Addr} {o : Obj} {es : Array DictEntry} {ep : Nat}
theorem turn_itemsT {kvs : List (List Key × V)} {elts : List Expr} {kk : Nat} {tpos : Pos} (it : Addr) (hod : o.data = .dict es ep) :
    Turn P w K (.Tuple elts kk tpos) (Itit d o kvs) [it] it (fun i h => ∃ ok ov, IsItemIter h it d i kvs.length ep ok ov) where
  mem := by simp
  obj := fun i h st b hb => by
    have e : b = it := by simpa using hb
    subst e
    obtain ⟨ok, ov, e⟩ := st
    exact ⟨_, e, fun v z => nomatch z⟩
  keep := fun i h h' st k => let ⟨ok, ov, e⟩ := st; ⟨ok, ov, k it (by simp) _ e⟩
  item := by
    intro X hP hw hK hc i pins s σ H E I hf st hg
    subst hP hw hK
    obtain ⟨hd, hi⟩ := hg
    obtain ⟨hs, hgd, hx, es', ep', hdt, hsz, ent⟩ := Inv.frzTV I hd
    obtain ⟨rfl, rfl⟩ := dict_ep hod hdt
    obtain ⟨⟨k, v⟩, hkv⟩ : ∃ p, kvs[i]? = some p := ⟨kvs[i], List.getElem?_eq_getElem hi⟩
    obtain ⟨en, q, hen, hkey, hq, ru⟩ := ent i k v hkv
    obtain ⟨ok, ov, he⟩ := st
    have he2 := he
    rw [← hsz] at he2
    have hlt : it < s.heap.objs.size := Heap.lt_size he
    have hi' : i < es'.size := by rw [hsz]; exact hi
    have een : es'[i] = en := by rw [Array.getElem?_eq_getElem hi'] at hen; exact Option.some.inj hen
    refine DT.nextI he2 ⟨o, hgd, hx, hdt⟩ hi' fun h' ho hT hz hk => ?_
    rw [een] at ho hT
    refine ⟨_, rfl, wpAny_letOwnedTupleGo_items (s := { s with heap := h' }) ho fun h'' he' sb => ?_⟩
    have hT2 : h''.get? s.heap.objs.size = some { cls := .type "tuple", data := .seq #[en.key, en.val] } := (sb.2 _ (Nat.ne_of_gt hlt)).trans hT
    have new : ObjOk X.prog X.w (upd H s.heap.objs.size (.tup [.ref q, v])) h'' s.heap.objs.size (.tup [.ref q, v]) :=
      ⟨by show 2 ≤ sizeLine; decide, [en.key, en.val], .cons hkey (.cons ru .nil), ⟨_, hT2, rfl, _, rfl⟩⟩
    have I1 : Inv X pins σ (upd H s.heap.objs.size (.tup [.ref q, v])) { s with heap := h'' } :=
      I.turnedNew (t' := s.toks) (ch := [it]) (fun b ob hb e => (sb.2 b (by simpa using hb)).trans (hk b ob (by simpa using hb) e)) hf (Nat.le_refl _) new
    refine ⟨.ref s.heap.objs.size, _, I1, rfl, ⟨_, k, v, q, hkv, hq, rfl, I.hok.fresh (Nat.le_refl _), rfl⟩, ⟨en.key, en.val, ?_⟩, fun b hb => ?_⟩
    · rw [← hsz]; exact he'
    · have e : b = it := by simpa using hb
      rw [e, upd_ne (Nat.ne_of_lt hlt)]
      exact (hf it (by simp)).1
  done := by
    intro X hP hw hK hc i pins s σ H E I hf st hg
    subst hP hw hK
    obtain ⟨hd, hi⟩ := hg
    obtain ⟨f0, f1, f2, f3, f4, f5⟩ := hf it (by simp)
    obtain ⟨hs, hgd, hx, es', ep', hdt, hsz, ent⟩ := Inv.frzTV I hd
    obtain ⟨rfl, rfl⟩ := dict_ep hod hdt
    obtain ⟨ok, ov, he⟩ := st
    rw [← hsz] at he
    exact DT.endI (I.ok.hd hc) he ⟨o, hgd, hx, hdt⟩ (by rw [hsz]; exact hi) fun h' eb => ⟨rfl, I.turned (t' := s.toks) (fun b ob hb e => eb b ob hb e) f0 f1 f3 f4 f5⟩
  self := fun A i s Q E st h => let ⟨_, _, e⟩ := st; PySem.W.kcp_self e h
end
def ItmW (x : V) (H1 : Hp) (R : It → Hp → Prop) : Prop := ∃ d o, x = .ref d ∧ ((∃ kvs, H1 d = some (.frz o (.dK kvs)) ∧ R (Iti d o kvs) H1) ∨ ∃ kvs, H1 d = some (.frz o (.dT kvs)) ∧ R (Itit d o kvs) H1)
def iItemsX (td : TE) : TI := fun σ H R => td σ H fun x H1 => ItmW x H1 R
section
variable {X : Cx} {e : Expr} {td : TE} {apos cpos : Pos}
theorem pi_itemsX {elts : List Expr} {kk : Nat} {tpos : Pos} (he : PE X e td) (hbase : attributeBase e "items" X.env (eval e X.env) = eval e X.env := by rfl) (hline : (apos.endLine == cpos.line) = true := by rfl) :
    PI X (.Tuple elts kk tpos) (.Call (.Attribute e "items" apos) [] [] cpos) (iItemsX td) := by
  refine ⟨fun pins s σ H R I h => ?_⟩
  refine wpAny_Call_method (T := "dict") (id := "dict.items") hbase rfl hline F.plainAttrs_dict F.slot_dict_items F.type_dict_items (thn (he.run pins s σ H _ I h) fun u s1 ⟨x, H1, I1, rx, d, o, ex, hcase⟩ => ?_)
  subst ex
  obtain rfl : u = Value.ref d := rx
  rcases hcase with ⟨kvs, hd, q⟩ | ⟨kvs, hd, q⟩
  · obtain ⟨hs, hgd, hx, es, ep, vs, hdt, hsz, kv, hm⟩ := I1.frzK hd
    have hl : kvs.length = vs.length := Paired.length kv
    refine ⟨hm.dictOf.typeIs, hm.dictOf.mapOf.noDict, ?_⟩
    have I2 : Inv X pins σ H1 { s1 with heap := s1.heap.push { cls := .type "dict_items", data := .fields #[.ref d] } } := I1.kept (t' := s1.toks) fun b ob q => Heap.get?_push_of_some _ q
    have fin : wpAny (model X.prog X.w) X.A (pyIter (.ref s1.heap.objs.size)) (PIE X pins σ (.Tuple elts kk tpos) R) X.xe { s1 with heap := s1.heap.push { cls := .type "dict_items", data := .fields #[.ref d] } } := by
      refine wpAny_pyIter_items (d := d) (knd := mixKind X.prog X.w) ⟨_, Heap.get?_push_size _ rfl, rfl, rfl⟩ (hm.push _) (pi_one (tk := s1.toks) I2 _ (turn_items _ hdt) ⟨.none, .none, ?_⟩ q)
      rw [hl]
      exact Heap.get?_push_size _ rfl
    show wpAny _ _ (callWith cpos (.builtin "dict.items") [.ref d] [] []) _ X.xe s1
    exact method_meetsIn F.slot_dict_items F.entry_dict_items rfl (PySem.evalArgs_none ⟨rfl, hm.dictOf.typeIs, F.args_dict_items_1 _, _, meets_dict_items (mixKind X.prog X.w) d hs, ⟨vs, hm.dictOf⟩, fin⟩)
  · obtain ⟨hs, hgd, hx, es, ep, hdt, hsz, ent⟩ := Inv.frzTV I1 hd
    have hm : DT.Raw s1.heap d es ep := ⟨o, hgd, hx, hdt⟩
    refine ⟨hm.typeIs, (fun b q => by cases q; exact ⟨o, hgd, hx.2.1⟩), ?_⟩
    have I2 : Inv X pins σ H1 { s1 with heap := s1.heap.push { cls := .type "dict_items", data := .fields #[.ref d] } } := I1.kept (t' := s1.toks) fun b ob q => Heap.get?_push_of_some _ q
    have fin : wpAny (model X.prog X.w) X.A (pyIter (.ref s1.heap.objs.size)) (PIE X pins σ (.Tuple elts kk tpos) R) X.xe { s1 with heap := s1.heap.push { cls := .type "dict_items", data := .fields #[.ref d] } } := by
      refine DT.iterI (d := d) (es := es) (ep := ep) ⟨_, Heap.get?_push_size _ rfl, rfl, rfl⟩ (hm.push _) (pi_one (tk := s1.toks) I2 _ (turn_itemsT _ hdt) ⟨.none, .none, ?_⟩ q)
      rw [← hsz]
      exact Heap.get?_push_size _ rfl
    show wpAny _ _ (callWith cpos (.builtin "dict.items") [.ref d] [] []) _ X.xe s1
    exact method_meetsIn F.slot_dict_items F.entry_dict_items rfl (PySem.evalArgs_none ⟨rfl, hm.typeIs, F.args_dict_items_1 _, _, DT.meetsItems (es := es) (ep := ep) hs, hm, fin⟩)
end
instance {td : TE} {σ : L2.St} {H : Hp} {R : It → Hp → Prop} : Go (iItemsX td σ H R) (td σ H fun x H1 => ItmW x H1 R) := ⟨id⟩
/-! ### a dict under lock while it is walked -/
section
variable {F : Hp} {L R : Cells} {H : Hp} {d : Addr} {u : HO} {σ : L2.St} {Q : VK}
theorem go_lockE {t : TE} (st : Sta F L H) (p : L.Perm ((d, u) :: R)) (m : Mut (some u)) (h : ∀ od H', Sta F ((d, .frz od u) :: R) H' → t σ H' fun v H'' => H'' d = some (.frz od u) ∧ Q v (upd H'' d u)) : tLockE t σ H Q :=
  ⟨d, u, (st.perm p).get (.head _), m, fun od => h od _ (st.put p rfl)⟩
theorem go_lockS {t : TS} {D : Ends} (st : Sta F L H) (p : L.Perm ((d, u) :: R)) (m : Mut (some u)) (h : ∀ od H', Sta F ((d, .frz od u) :: R) H' → t ⟨fun σ' H' => H' d = some (.frz od u) ∧ D.nx σ' (upd H' d u), fun v H' => H' d = some (.frz od u) ∧ D.rt v (upd H' d u), fun σ' H' => H' d = some (.frz od u) ∧ D.bk σ' (upd H' d u), fun σ' H' => H' d = some (.frz od u) ∧ D.ct σ' (upd H' d u)⟩ σ H') : tLock t D σ H :=
  ⟨d, u, (st.perm p).get (.head _), m, fun od => h od _ (st.put p rfl)⟩
/-- behind the lock -/
theorem go_unlk {od : Obj} {A : Hp → Prop} (st : Sta F L H) (p : L.Perm ((d, .frz od u) :: R)) (m : isMutB u = true) (h : ∀ H', Sta F ((d, u) :: R) H' → A H') : H d = some (.frz od u) ∧ A (upd H d u) :=
  ⟨(st.perm p).get (.head _), h _ (st.put p m)⟩
end
/-! ### walks of locked dicts -/
theorem walk_itemsT {d : Addr} {o : Obj} {kvs : List (List Key × V)} : Walk (Itit d o kvs) kvs.length (fun H => H d = some (.frz o (.dT kvs)))
    (fun i H x H' => ∃ T k v q, kvs[i]? = some (k, v) ∧ H q = some (.tup (k.map kV)) ∧ x = .ref T ∧ H T = none ∧ H' = upd H T (.tup [.ref q, v])) :=
  ⟨fun _ _ hi q => ⟨q, hi⟩, fun _ q => ⟨q, Nat.le_refl _⟩, fun _ _ _ _ _ _ y => y⟩
end L2.A

namespace L2.A
open PySem PySem.Spec PyProof.Rows
instance {σ : L2.St} {H : Hp} {Q : VK} : Go (tDNewT σ H Q) (NewO (HO.dT []) H Q) := ⟨id⟩
instance {x0 x1 x2 x3 x4 x5} : More (SdW x0 x1 x2 x3 x4 x5) := ⟨id⟩
end L2.A

namespace L2.A
open PySem PySem.Spec PyProof.Rows
/-! ### x not in l where the items are data -/
section
variable {X : Cx}
def rNotInE (K : PySem.W.Frag) : R2 := fun x y H Q => ∃ d ds, Dp K H x d ∧ Dp K H y (.list ds) ∧ d.canLay0 = true ∧ d.depth ≤ 60 ∧ PyData.canLayAll0 ds = true ∧ Q (.bl (!(ds.any fun z => PyData.eqv z d))) H
theorem op_notInE (hu : X.A.units + 64 < cLine) : OpR X (compareOp .NotIn) (rNotInE X.K) := by
  intro pins s σ H x y v u Q I rx ry h
  obtain ⟨d, ds, hd, he, sd, dd, se, q⟩ := h
  obtain ⟨as, r1⟩ := Dp.reads I d x v hd rx
  obtain ⟨bs, r2⟩ := Dp.reads I (.list ds) y u he ry
  refine SeqAt.notIn_list_reads r2 r1 se sd ?_ ⟨.bl _, H, I, rfl, q⟩
  have := Nat.min_le_right (PyData.depthAll ds) d.depth
  omega
theorem go_notInE {K : PySem.W.Frag} {H : Hp} {Q : VK} {x y : V} {d : PyData} {ds : List PyData} (hx : Dp K H x d) (hy : Dp K H y (.list ds)) (s1 : d.canLay0 = true) (s2 : d.depth ≤ 60) (s3 : PyData.canLayAll0 ds = true) (h : Q (.bl (!(ds.any fun z => PyData.eqv z d))) H) : rNotInE K x y H Q := ⟨d, ds, hx, hy, s1, s2, s3, h⟩
end
end L2.A


namespace L2.A
open PySem PySem.Spec PyProof.Rows
/-! ### set(xs), xs a list of ints, so that it can be walked and sorted -/
section
variable {P : Program} {w : World} {A : Around} {E : Value → Shared → Prop} {s : Shared}
theorem code_setL (a : Value) {Q₁ : Value → Shared → Prop}
    (h : Q₁ (.ref s.heap.objs.size) { s with heap := s.heap.push { cls := .type "set", dict := none, data := .set #[] 0 (.fresh 0 0 (!w.params.followText "set-order")) } }) :
    codeAny (model P w) A (.call (.builtin "set.__new__") ⟨[.type "set", a], []⟩) (wants Q₁ E) s := by
  refine codeAny_of_tree ?_
  show wpAny _ A.in1 (do checkBuiltinCall "set.__new__" ⟨[.type "set", a], []⟩; again (.builtin "set.__new__" ⟨[.type "set", a], []⟩)) _ _ s
  refine wpAny_bind (wpAny_of_eq (PySem.F.newCall_set_1 a) (wpAny_pure ⟨plainId_quiet PySem.F.plain_set_new _, codeAny_builtin PySem.F.entry_set_new ?_⟩))
  rw [Around.under_plainId PySem.F.plain_set_new _]
  unfold Builtin.«set.__new__» Builtin.Frozenset.newClass
  have hsub := sub_set_self
  obtain ⟨hp, g, d, tk, os⟩ := s
  dsimp only
  wp_walk
  refine wpAny_askSetting (wpAny_pure ?_)
  dsimp only
  simp only [newObj]
  refine wpAny_bind (wpAny_alloc (wpAny_pure ?_))
  exact wpAny_pure h
end
section
variable {prog : Program} {w : World} {A : Around} {R : Result → Shared → Prop} {I : Addr} {fp wr : List Addr} {G : Array GenState → Array GenState → Prop} {n : Nat} {P : Nat → Value → Prop} {St : Nat → Shared → Prop}
theorem loop_setR (W : WalksS prog w A.in1 I fp wr G n P St) (S : Addr) (hSf : S ∉ fp) (val : Nat → Int) (hval : ∀ i v, P i v → ∃ t, v = .int (val i) t) (hb : n + 1 < scanBound) :
    ∀ (k i : Nat) (s : Shared), n - i = k → i ≤ n → St i s → SetR w s.heap S (fun k' => (firstMet val i).any (· == k')) (firstMet val i).length →
      (∀ s', Moved (S :: wr) G s s' → SetR w s'.heap S (fun k' => (firstMet val n).any (· == k')) (firstMet val n).length → R (.ok (.ret .none)) s') →
      codeAny (model prog w) A (.builtin "set.update.loop" ⟨[.ref S, .ref I], []⟩) R s := by
  have hSw : S ∉ wr := fun h => hSf (W.sub _ h)
  have hsub : ∀ b ∈ wr, b ∈ S :: wr := fun b hb => List.mem_cons_of_mem _ hb
  intro k
  induction k with
  | zero =>
    intro i s hk hi hst hS hR
    have hin : i = n := by omega
    subst hin
    refine codeAny_builtin PyProof.Rows.F.entry_set_update_loop ?_
    rw [Around.under_plainId PyProof.Rows.F.plain_set_update_loop _]
    show wpAny _ A.in1 (pyNext (.ref I) >>= _) _ _ s
    refine wpAny_bind (W.done s _ _ hst fun s' hm => ?_)
    show wpAny _ A.in1 (ret Value.none) _ _ s'
    exact wpAny_pure (hR s' (hm.mono hsub) (hS.at fun o ho => hm.heap S _ hSw ho))
  | succ k ih =>
    intro i s hk hi hst hS hR
    have hlt : i < n := by omega
    refine codeAny_builtin PyProof.Rows.F.entry_set_update_loop ?_
    rw [Around.under_plainId PyProof.Rows.F.plain_set_update_loop _]
    show wpAny _ A.in1 (pyNext (.ref I) >>= _) _ _ s
    refine wpAny_bind (W.item i s _ _ hlt hst fun v s' hP hst' hm => ?_)
    obtain ⟨t, rfl⟩ := hval i v hP
    have hS' : SetR w s'.heap S (fun k' => (firstMet val i).any (· == k')) (firstMet val i).length := hS.at fun o ho => hm.heap S _ hSw ho
    show wpAny _ A.in1 (holding [Value.int (val i) t] (setAdd S (.int (val i) t)) >>= _) _ _ s'
    refine wpAny_bind (wpAny_holding ?_)
    unfold setAdd
    refine wpAny_holding ?_
    refine wpAny_bind ((intKind prog w).pyHash (k := val i) (intKind_is _ _ _ _) ?_)
    have hroom : (firstMet val i).length + 1 < scanBound := by have := firstMet_length_le val i; omega
    refine setR_add_hashed (s := { s' with toks := s'.toks + 1 }) hS' hroom fun h' hsb hS2 => ?_
    have hSi : SetR w h' S (fun k' => (firstMet val (i + 1)).any (· == k')) (firstMet val (i + 1)).length := by
      have q := hS2.congr (S' := fun k' => (firstMet val (i + 1)).any (· == k')) fun k' => by rw [firstMet_succ, step_any]
      rw [firstMet_succ, step_length] at *
      exact q
    refine wpAny_pure ⟨plainId_quiet PyProof.Rows.F.plain_set_update_loop _, ih (i + 1) _ (by omega) hlt (W.frame _ s' _ _ hst' (Nat.le_succ _) fun b hb o e => ?_) hSi fun s'' hm'' hS'' => ?_⟩
    · rw [hsb.2 b (fun h : b = S => hSf (by rw [← h]; exact hb))]; exact e
    · refine hR s'' (Moved.trans W.gtrans ((hm.mono hsub).then_heap (Nat.le_succ _) fun b o hb e => ?_) hm'') hS''
      rw [hsb.2 b (fun h : b = S => hb (by rw [h]; exact List.mem_cons_self))]; exact e
end
section
variable {prog : Program} {w : World} {A : Around} {E : Value → Shared → Prop} {s : Shared}
set_option maxRecDepth 100000 in
set_option maxHeartbeats 3200000 in
theorem call_setR {l : Addr} {items : Array Value} {ns : List Int} {Q : Value → Shared → Prop}
    (hh : A.handled = none) (hl : s.heap.IsList l items) (hi : PyProof.Rows.IntsAre items.toList ns) (hb : items.size + 1 < scanBound)
    (h : ∀ (h' : Heap) (tk : Nat), SetR w h' s.heap.objs.size (fun k' => (firstMet (fun i => ns.getD i 0) items.size).any (· == k')) (firstMet (fun i => ns.getD i 0) items.size).length →
      (∀ b o, b < s.heap.objs.size → s.heap.get? b = some o → h'.get? b = some o) → Q (.ref s.heap.objs.size) { s with heap := h', toks := tk }) :
    wpAny (model prog w) A (call (.type "set") [.ref l]) Q E s := by
  obtain ⟨c, tl, hmro⟩ := PySem.F.called_set.mro
  have hmade := PySem.F.called_set.made
  have hsub := PySem.F.called_set.sub
  refine wpAny_call (codeAny_of_tree ?_)
  show wpAny _ _ (callAny (.type "set") _) _ _ _
  refine wpAny_pure ⟨Code.quiet_builtin _ (by decide +kernel), codeAny_builtin PySem.F.entry_type_call ?_⟩
  rw [Around.under_plain (weight_type_call_type "set" [.ref l] []) rfl]
  have h1 := PySem.F.called_set.notType
  have h2 := PySem.F.called_set.canCreate
  have hct := PySem.F.typeCall_set_1 (.ref l)
  repeat (any_goals (first | assumption | wp_step))
  generalize hled : (!w.params.followText "set-order") = led
  refine codeAny_mono (code_setL (.ref l) (E := E) (Q₁ := fun obj s₁ => obj = .ref s.heap.objs.size ∧ s₁ = { s with heap := s.heap.push { cls := .type "set", dict := none, data := .set #[] 0 (.fresh 0 0 led) } }) ⟨rfl, by rw [hled]⟩) fun r s₁ hr => ?_
  cases r with
  | error e => exact hr
  | ok fl =>
    cases fl with
    | ret obj =>
      obtain ⟨rfl, rfl⟩ := hr
      have hS : (s.heap.push { cls := .type "set", dict := none, data := .set #[] 0 (.fresh 0 0 led) }).get? s.heap.objs.size = some { cls := .type "set", dict := none, data := .set #[] 0 (.fresh 0 0 led) } := Heap.get?_push_size _ rfl
      have hT : Shared.TypeIs { s with heap := s.heap.push { cls := .type "set", dict := none, data := .set #[] 0 (.fresh 0 0 led) } } (.ref s.heap.objs.size) "set" := ⟨_, hS, rfl⟩
      have hli := PySem.F.called_set.init.lookup
      have hbi := PySem.F.called_set.init.bind (.ref s.heap.objs.size)
      repeat (any_goals (first | assumption | wp_step))
      refine codeAny_mono (codeAny_call_builtin (R := wants (fun r s₂ => r = .none ∧ ∃ h' tk, s₂ = { s with heap := h', toks := tk } ∧
          SetR w h' s.heap.objs.size (fun k' => (firstMet (fun i => ns.getD i 0) items.size).any (· == k')) (firstMet (fun i => ns.getD i 0) items.size).length ∧
          (∀ b o, b < s.heap.objs.size → s.heap.get? b = some o → h'.get? b = some o)) E) PySem.F.called_set.init.plain PySem.F.entry_set_init (check_set_init_1 hT ?_)) fun r₂ s₂ hr₂ => ?_
      · obtain ⟨ol, hol, hcl, nl, hdl⟩ := hl
        obtain ⟨ocls, odict, odata, oslots⟩ := ol
        simp only at hcl hdl
        subst hcl; subst hdl
        have hol' : (s.heap.push { cls := .type "set", dict := none, data := .set #[] 0 (.fresh 0 0 led) }).get? l = some { cls := .type "list", dict := odict, data := .seq items nl, slots := oslots } := Heap.get?_push_of_some _ hol
        have hsls := PySem.F.sub_list_set
        have hslf := PySem.F.sub_list_frozenset
        have hne : (Value.type "list" == Value.type "dict") = false := by decide
        have hl1 : (s.heap.push { cls := .type "set", dict := none, data := .set #[] 0 (.fresh 0 0 led) }).IsList l items := ⟨_, hol', rfl, nl, rfl⟩
        unfold Builtin.«set.__init__» noKeywords Builtin.Frozenset.updateFrom
        generalize hPI : pyIter = PI
        wp_walk
        subst hPI
        refine wpAny_pyIter_list hl1 ?_
        refine wpAny_bind (wpAny_runValue ?_)
        have hlS : l < s.heap.objs.size := Heap.lt_size hol
        have hh3 : A.in1.in1.in1.handled = none := by simp [hh]
        have hneI : l ≠ (s.heap.push { cls := .type "set", dict := none, data := .set #[] 0 (.fresh 0 0 led) }).objs.size := by
          rw [Heap.size_push]; exact Nat.ne_of_lt (Nat.lt_succ_of_lt hlS)
        have hSf : s.heap.objs.size ∉ [(s.heap.push { cls := .type "set", dict := none, data := .set #[] 0 (.fresh 0 0 led) }).objs.size, l] := by
          rw [Heap.size_push]; simp only [List.mem_cons, List.mem_singleton, List.not_mem_nil, or_false, not_or]
          exact ⟨Nat.ne_of_lt (Nat.lt_succ_self _), Nat.ne_of_gt hlS⟩
        have hval : ∀ (i : Nat) (v : Value), items[i]? = some v → ∃ t, v = .int ((fun i => ns.getD i 0) i) t := fun i v hv =>
          PyProof.Rows.IntsAre.int_at hi i v (by rw [Array.getElem?_toList]; exact hv)
        refine loop_setR ((Walks.list hh3 _ l hneI items).toS) s.heap.objs.size
          hSf (fun i => ns.getD i 0) hval hb (items.size - 0) 0 _ (by omega) (Nat.zero_le _)
          ⟨⟨_, Heap.get?_push_size _ rfl, rfl, rfl⟩, (hl1.push _)⟩ ?hS0 ?hR
        case hS0 =>
          have q := setR_fresh (h := s.heap) w
          rw [hled] at q
          exact q.at fun o ho => Heap.get?_push_of_some _ ho
        case hR =>
          intro s' hm hS'
          obtain ⟨h', g', d', tk', os'⟩ := s'
          have eg : g' = s.gens := hm.gens
          have ed : d' = s.drawn := hm.drawn
          have eo : os' = s.os := hm.os
          subst eg; subst ed; subst eo
          show wpAny _ _ _ _ _ _
          refine wpAny_pure ?_
          show wpAny _ _ (ret Value.none) _ _ _
          refine wpAny_pure ⟨rfl, h', tk', rfl, hS', fun b o hb e => ?_⟩
          have hb1 : b ≠ s.heap.objs.size := Nat.ne_of_lt hb
          have hb2 : b ≠ (s.heap.push { cls := .type "set", dict := none, data := .set #[] 0 (.fresh 0 0 led) }).objs.size := by
            rw [Heap.size_push]; exact Nat.ne_of_lt (Nat.lt_succ_of_lt hb)
          exact hm.heap b o (by simp only [List.mem_cons, List.mem_singleton, List.not_mem_nil, or_false, not_or]; exact ⟨hb1, hb2⟩) (Heap.get?_push_of_some _ (Heap.get?_push_of_some _ e))
      · cases r₂ with
        | error e => exact hr₂
        | ok fl₂ =>
          cases fl₂ with
          | ret r =>
            obtain ⟨rfl, h', tk, rfl, hS', hk'⟩ := hr₂
            repeat (any_goals (first | assumption | wp_step))
            exact h _ _ hS' hk'
          | _ => exact hr₂.elim
    | _ => exact hr.elim
end
section
variable {X : Cx}
theorem firstMet_mem {ns : List Int} {k : Int} : (firstMet (fun i => ns.getD i 0) ns.length).any (· == k) = decide (k ∈ ns) := by
  rw [firstMet_any]
  have e : (List.range ns.length).map (fun i => ns.getD i 0) = ns := by
    apply List.ext_getElem?
    intro i
    by_cases c : i < ns.length
    · rw [List.getElem?_map, List.getElem?_range c]
      simp [List.getD_eq_getElem?_getD, List.getElem?_eq_getElem c]
    · rw [List.getElem?_eq_none (by simp; omega), List.getElem?_eq_none (by omega)]
  rw [e]
  by_cases c : k ∈ ns
  · rw [decide_eq_true c, List.any_eq_true]
    exact ⟨k, c, by simp⟩
  · rw [decide_eq_false c, List.any_eq_false]
    intro z mz
    simp
    exact fun q => c (q ▸ mz)
theorem nd_len : ∀ {l ms : List Int}, l.Nodup → (∀ x ∈ l, x ∈ ms) → l.length ≤ ms.length
  | [], _, _, _ => Nat.zero_le _
  | x :: r, ms, nd, h => by
    have nd := List.nodup_cons.mp nd
    have := nd_len (l := r) (ms := ms.erase x) nd.2 fun y m => (List.mem_erase_of_ne (fun e => nd.1 (by rw [← e]; exact m))).mpr (h y (.tail _ m))
    rw [List.length_erase_of_mem (h x (.head _))] at this
    have hp := List.length_pos_of_mem (h x (.head _))
    rw [List.length_cons]
    omega
theorem firstMet_nd (val : Nat → Int) : ∀ i, (firstMet val i).Nodup
  | 0 => List.nodup_nil
  | i + 1 => by
    rw [firstMet_succ]
    unfold step_dedup
    split
    · exact firstMet_nd val i
    · rename_i c
      rw [List.nodup_append]
      refine ⟨firstMet_nd val i, by simp, fun a ma b mb e => c ?_⟩
      rw [List.mem_singleton] at mb
      rw [List.any_eq_true]
      exact ⟨a, ma, by rw [e, mb]; simp⟩
/-- set(xs): its members -/
def rSetL (K : PySem.W.Frag) (w : World) : List V → Hp → VK → Prop := fun vs H Q => ∃ (l : Addr) (ns : List Int), vs = [V.ref l] ∧ SqL K H l (ns.map V.int) ∧ ns.length ≤ 2000 ∧ ∀ p n, H p = none → (∀ ms : List Int, (∀ k ∈ ns, k ∈ ms) → n ≤ ms.length) → Q (.ref p) (upd H p (SetO w p (fun k => decide (k ∈ ns)) n))
theorem cr_setL (hc : X.calm = true) : CallR X (.type "set") (rSetL X.K X.w) := by
  intro pins s σ H vs us Q I r h
  obtain ⟨l, ns, rfl, hs, hz, q⟩ := h
  obtain ⟨its, rv, hl, _⟩ := I.list hs
  rw [Vals.ref1 r]
  have hi := rv.ints
  have hlen := hi.length
  refine call_setR (prog := X.prog) (w := X.w) (I.ok.hd hc) hl.isList (by simpa using hi) (by rw [List.size_toArray]; unfold scanBound; omega) fun h' tk R hk => ?_
  have hsz : its.toArray.size = ns.length := by rw [List.size_toArray]; exact hlen
  rw [hsz] at R
  have R := R.congr (S' := fun k => decide (k ∈ ns)) fun k => firstMet_mem.symm
  have hn : ∀ ms : List Int, (∀ k ∈ ns, k ∈ ms) → (firstMet (fun i => ns.getD i 0) ns.length).length ≤ ms.length := fun ms hm => nd_len (firstMet_nd _ _) fun k mk => hm k (by
    have := firstMet_mem (ns := ns) (k := k)
    rw [List.any_eq_true.mpr ⟨k, mk, by simp⟩] at this
    exact of_decide_eq_true this.symm)
  exact ⟨.ref _, upd H s.heap.objs.size (SetO X.w s.heap.objs.size (fun k => decide (k ∈ ns)) _), I.laid (t' := tk) (fun b ob e => hk b ob (Heap.lt_size e) e) (Nat.le_refl _) (setO_new R), rfl, q _ _ (I.hok.fresh (Nat.le_refl _)) hn⟩
end
end L2.A

namespace L2.A
open PySem PySem.Spec PyProof.Rows
/-! ### sum of a list or a tuple of numbers -/
section
variable {X : Cx} {K : PySem.W.Frag}
def rSumT (K : PySem.W.Frag) : List V → Hp → VK → Prop := fun vs H Q => ∃ (a : Addr) (ns : List Int), vs = [V.ref a] ∧ SqT K H a (ns.map V.int) ∧ Q (.int ns.sum) H
theorem cr_sumT (hc : X.calm = true) : CallR X (.builtin "sum") (rSumT X.K) := by
  intro pins s σ H vs us Q I r h
  obtain ⟨a, ns, rfl, hs, q⟩ := h
  obtain ⟨its, rv, ht, _⟩ := I.tuple hs
  rw [Vals.ref1 r]
  have hi := rv.ints
  obtain ⟨xs, e⟩ := hi.allInts.items
  have hn : numsOf (intItems xs).toList = ns := by rw [← e]; exact hi.numsOf
  rw [nums_intItems] at hn
  rw [e] at ht
  refine PySem.W.ktm_sumG (I.ok.hd hc) ht fun h' tk t' hk => ?_
  rw [preSum_eq, List.take_of_length_le (by simp), hn]
  exact ⟨.int _, H, I.kept hk, ⟨_, rfl⟩, q⟩
def rSumX (K : PySem.W.Frag) : List V → Hp → VK → Prop := fun vs H Q => rSum K vs H Q ∨ rSumT K vs H Q
theorem cr_sumX (hc : X.calm = true) : CallR X (.builtin "sum") (rSumX X.K) := fun pins s σ H vs us Q I r h => h.elim (cr_sum hc pins s σ H vs us Q I r) (cr_sumT hc pins s σ H vs us Q I r)
theorem cr_sumXK (hK : X.K = K) (hc : X.calm = true) : CallR X (.builtin "sum") (rSumX K) := hK ▸ cr_sumX hc
theorem go_sumXL {H : Hp} {Q : VK} {l : Addr} {ns : List Int} (hS : SqL K H l (ns.map V.int)) (h : Q (.int ns.sum) H) : rSumX K [.ref l] H Q := .inl ⟨l, ns, rfl, hS, h⟩
theorem go_sumXT {H : Hp} {Q : VK} {l : Addr} {ns : List Int} (hS : SqT K H l (ns.map V.int)) (h : Q (.int ns.sum) H) : rSumX K [.ref l] H Q := .inr ⟨l, ns, rfl, hS, h⟩
end
end L2.A

namespace L2.A
open PySem PySem.Spec PyProof.Rows
/-! ### list(zip(a, b)), two lists -/
section
variable {X : Cx} {pins : List (Addr × Obj)} {σ : L2.St} {a b z TI TO i1 i2 q : Addr} {xs ys : List V}
/-- the zip as it stands ahead of item i; its tuple may be held by the list at q -/
structure ZSt (h : Heap) (a b z TI TO i1 i2 q : Addr) (i : Nat) : Prop where
  ti : IsPair h TI (.ref i1) (.ref i2)
  l1 : h.IsListIter i1 a i
  l2 : h.IsListIter i2 b i
  st : (IsZip h z TI TO .none ∧ ∃ x y, IsPair h TO x y) ∨ ∃ T f oT, PySem.IsZipHeld h z TI TO T f ∧ h.get? T = some oT ∧ T ≠ z ∧ T ≠ TO ∧ T ≠ i1 ∧ T ≠ i2 ∧ T ≠ q
structure ZOff (z TI TO i1 i2 q : Addr) : Prop where
  z : z ≠ q
  ti : TI ≠ q
  to : TO ≠ q
  i1 : i1 ≠ q
  i2 : i2 ≠ q
theorem ZSt.keep {h h' : Heap} {i : Nat} (s : ZSt h a b z TI TO i1 i2 q i) (o : ZOff z TI TO i1 i2 q) (k : ∀ c u, c ≠ q → h.get? c = some u → h'.get? c = some u) : ZSt h' a b z TI TO i1 i2 q i :=
  ⟨k _ _ o.ti s.ti, s.l1.at fun u e => k _ u o.i1 e, s.l2.at fun u e => k _ u o.i2 e, s.st.imp (fun ⟨e, x, y, p⟩ => ⟨k _ _ o.z e, x, y, k _ _ o.to p⟩) fun ⟨T, f, oT, e, eT, n1, n2, n3, n4, n5⟩ => ⟨T, f, oT, k _ _ o.z e, k _ _ n5 eT, n1, n2, n3, n4, n5⟩⟩
theorem z5 {c : Addr} (h : c ∈ [z, TI, TO, i1, i2]) : c = z ∨ c = TI ∨ c = TO ∨ c = i1 ∨ c = i2 := by simpa using h
theorem loopZ {A1 : Around} (D : ZipApart z TI TO i1 i2 a b) (O : ZOff z TI TO i1 i2 q) (hh : A1.in1.handled = none) (hlen : xs.length = ys.length) (hsz : xs.length < sizeLine) {H0 : Hp} {Rs : Result → Shared → Prop}
    (hdone : ∀ (ts : List Addr) (H : Hp) (s : Shared), Inv X pins σ H s → ts.length = xs.length → H q = some (.lst (ts.map V.ref)) → (∀ c o, c ≠ q → H0 c = some o → H c = some o) → (∀ (j : Nat) t, ts[j]? = some t → ∃ x y, xs[j]? = some x ∧ ys[j]? = some y ∧ H t = some (.tup [x, y])) → Rs (.ok (.ret .none)) s) :
    ∀ (k i : Nat) (ts : List Addr) (H : Hp) (s : Shared), xs.length - i = k → i ≤ xs.length → ts.length = i → Inv X pins σ H s → (∀ c ∈ [z, TI, TO, i1, i2], FpOk X pins H c ∧ c < s.heap.objs.size) → ZSt s.heap a b z TI TO i1 i2 q i → H a = some (.lst xs) → H b = some (.lst ys) → a ≠ q → b ≠ q → H q = some (.lst (ts.map V.ref)) →
      (∀ c o, c ≠ q → H0 c = some o → H c = some o) → (∀ (j : Nat) t, ts[j]? = some t → ∃ x y, xs[j]? = some x ∧ ys[j]? = some y ∧ H t = some (.tup [x, y])) →
      codeAny (model X.prog X.w) A1 (.builtin "list.extend.loop" ⟨[.ref q, .ref z, .none], []⟩) Rs s := by
  intro k
  induction k with
  | zero =>
    intro i ts H s hk hi lt I hf st hqx hqy naq nbq hq hs hp
    refine codeAny_builtin PySem.F.entry_extend_loop ?_
    rw [Around.under_plainId PySem.F.plain_extend_loop _]
    show wpAny _ A1.in1 (pyNext (.ref z) >>= _) _ _ s
    obtain ⟨its, rv, p, _⟩ := I.list (.of hqx)
    obtain ⟨its2, rv2, p2, _⟩ := I.list (.of hqy)
    have l1 := rv.length
    have l2 := rv2.length
    have he : its.toArray[i]? = none ∨ its2.toArray[i]? = none := .inl (by simp; omega)
    have fin : ∀ h', (∀ c o, c ≠ z → c ≠ TO → c ≠ i1 → c ≠ i2 → s.heap.get? c = some o → h'.get? c = some o) → Rs (.ok (.ret .none)) { s with heap := h' } := fun h' hk' =>
      hdone ts H _ (I.turnedL (t' := s.toks) (ch := [z, TI, TO, i1, i2]) (fun c o hb e => hk' c o (fun x => hb (by simp [x])) (fun x => hb (by simp [x])) (fun x => hb (by simp [x])) (fun x => hb (by simp [x])) e) fun c hc => (hf c hc).1) (by omega) hq hs hp
    rcases st.st with ⟨hz, x0, y0, hTO⟩ | ⟨T, f, oT, hz, hT, n1, n2, n3, n4, n5⟩
    · exact wpAny_bind (wpAny_pyNext_zip_end hh D hz st.ti hTO st.l1 st.l2 p.isList p2.isList he fun h' hk' => wpAny_pure (fin h' hk'))
    · exact wpAny_bind (PySem.wpAny_pyNext_zip_end_held hh D hz hT st.ti st.l1 st.l2 p.isList p2.isList he fun h' hk' => wpAny_pure (fin h' fun c o c1 _ c3 c4 e => hk' c o c1 c3 c4 e))
  | succ k ih =>
    intro i ts H s hk hi lt I hf st hqx hqy naq nbq hq hs hp
    refine codeAny_builtin PySem.F.entry_extend_loop ?_
    rw [Around.under_plainId PySem.F.plain_extend_loop _]
    show wpAny _ A1.in1 (pyNext (.ref z) >>= _) _ _ s
    obtain ⟨its, rv, p, _⟩ := I.list (.of hqx)
    obtain ⟨its2, rv2, p2, _⟩ := I.list (.of hqy)
    have hix : i < xs.length := by omega
    have hiy : i < ys.length := by omega
    have ex : xs[i]? = some xs[i] := List.getElem?_eq_getElem hix
    have ey : ys[i]? = some ys[i] := List.getElem?_eq_getElem hiy
    obtain ⟨u, hu, ru⟩ := rv.get ex
    obtain ⟨u2, hu2, ru2⟩ := rv2.get ey
    have hql : q < s.heap.objs.size := by
      obtain ⟨_, its3, n3, _, _, e⟩ := I.lstM hq
      exact Heap.lt_size e
    have lts : ∀ {c}, c ∈ [z, TI, TO, i1, i2] → c < s.heap.objs.size := fun hc => (hf _ hc).2
    have zl := lts (c := z) (by simp)
    have til := lts (c := TI) (by simp)
    have tol := lts (c := TO) (by simp)
    have i1l := lts (c := i1) (by simp)
    have i2l := lts (c := i2) (by simp)
    -- what is common to both states
    have fin : ∀ h', ZSt h' a b z TI TO i1 i2 q (i + 1) → IsPair h' s.heap.objs.size u u2 → h'.objs.size = s.heap.objs.size + 1 → (∀ c o, c ≠ z → c ≠ TO → c ≠ i1 → c ≠ i2 → s.heap.get? c = some o → h'.get? c = some o) →
        wpAny (model X.prog X.w) A1.in1 (updateSeq q (·.push (Value.ref s.heap.objs.size)) >>= fun _ => again (.builtin "list.extend.loop" ⟨[.ref q, .ref z, .none], []⟩))
          (fun fin s' => match fin with | .done f => Rs (.ok f) s' | .again c' => c'.quiet = true ∧ codeAny (model X.prog X.w) A1 c' Rs s') (fun e s' => Rs (.error e) s') { s with heap := h' } := by
      intro h' st' hT hsz' hk'
      have new : ObjOk X.prog X.w (upd H s.heap.objs.size (.tup [xs[i], ys[i]])) h' s.heap.objs.size (.tup [xs[i], ys[i]]) :=
        ⟨by show 2 ≤ sizeLine; decide, [u, u2], .cons ru (.cons ru2 .nil), ⟨_, hT, rfl, _, rfl⟩⟩
      have I1 : Inv X pins σ (upd H s.heap.objs.size (.tup [xs[i], ys[i]])) { s with heap := h' } :=
        I.turnedNew (t' := s.toks) (ch := [z, TI, TO, i1, i2]) (fun c o hb e => hk' c o (fun x => hb (by simp [x])) (fun x => hb (by simp [x])) (fun x => hb (by simp [x])) (fun x => hb (by simp [x])) e) (fun c hc => (hf c hc).1) (Nat.le_refl _) new
      have fr : H s.heap.objs.size = none := I.hok.fresh (Nat.le_refl _)
      have qn : q ≠ s.heap.objs.size := Nat.ne_of_lt hql
      have hq1 : upd H s.heap.objs.size (.tup [xs[i], ys[i]]) q = some (.lst (ts.map V.ref)) := by rw [upd_ne qn]; exact hq
      obtain ⟨zz, its3, n3, r3, l3, e3⟩ := I1.lstM hq1
      have lts3 : its3.length = i := by rw [← l3, List.length_map]; exact lt
      refine wpAny_bind (wpAny_updateSeq e3 rfl (wpAny_pure ⟨plainId_quiet PySem.F.plain_extend_loop _, ?_⟩) (by rw [List.size_toArray]; omega) (by show (its3.toArray.push _).size ≤ sizeLine + 1; rw [Array.size_push, List.size_toArray]; omega))
      have I2 := I1.lset (f := (·.push (Value.ref s.heap.objs.size))) (its' := its3 ++ [Value.ref s.heap.objs.size]) (ys := (ts ++ [s.heap.objs.size]).map V.ref) (t' := s.toks) hq1 e3 (by simp) (by rw [List.map_append]; exact r3.append (.cons rfl .nil)) (by rw [List.length_map, List.length_append, lt, List.length_singleton]; omega)
      have up : ∀ c o, c ≠ q → h'.get? c = some o → (h'.update q (Obj.mapSeq (·.push (Value.ref s.heap.objs.size)))).get? c = some o := fun c o hc e => (Heap.get?_update_other _ _ (Ne.symm hc)).trans e
      have sm : ∀ c o, c ≠ q → H c = some o → upd (upd H s.heap.objs.size (.tup [xs[i], ys[i]])) q (.lst ((ts ++ [s.heap.objs.size]).map V.ref)) c = some o := fun c o hc e => by
        rw [upd_ne hc, upd_ne (ne_of_none e fr)]; exact e
      refine ih (i + 1) (ts ++ [s.heap.objs.size]) _ _ (by omega) hix (by simp [lt]) I2 (fun c hc => ?_) (st'.keep O fun c o hc e => up c o hc e) (sm _ _ naq hqx) (sm _ _ nbq hqy) naq nbq upd_same (fun c o hc e => sm c o hc (hs c o hc e)) fun j t hj => ?_
      · obtain ⟨⟨f1, f2⟩, f3⟩ := hf c hc
        have ncq : c ≠ q := by
          intro e
          rw [e, hq] at f1; cases f1
        refine ⟨⟨?_, f2⟩, ?_⟩
        · rw [upd_ne ncq, upd_ne (Nat.ne_of_lt f3)]; exact f1
        · show c < (h'.update q _).objs.size
          have : (h'.update q (Obj.mapSeq (·.push (Value.ref s.heap.objs.size)))).objs.size = h'.objs.size := by first | exact Heap.size_update .. | simp [Heap.update]
          rw [this]
          exact Nat.lt_of_lt_of_le f3 (by rw [hsz']; exact Nat.le_succ _)
      · rcases Nat.lt_trichotomy j ts.length with h1 | h1 | h1
        · rw [List.getElem?_append_left h1] at hj
          obtain ⟨x, y, e1, e2, e3⟩ := hp j t hj
          have ntq : t ≠ q := by
            intro e
            rw [e, hq] at e3; cases e3
          exact ⟨x, y, e1, e2, sm t _ ntq e3⟩
        · subst h1
          have ht : s.heap.objs.size = t := by simpa using hj
          subst ht
          refine ⟨xs[i], ys[i], by rw [lt]; exact ex, by rw [lt]; exact ey, ?_⟩
          rw [upd_ne (Ne.symm qn), upd_same]
        · have hnone : (ts ++ [s.heap.objs.size])[j]? = none := List.getElem?_eq_none (by rw [List.length_append, List.length_singleton]; omega)
          rw [hnone] at hj; cases hj
    rcases st.st with ⟨hz, x0, y0, hTO⟩ | ⟨T, f, oT, hz, hT, n1, n2, n3, n4, n5⟩
    · refine wpAny_bind (wpAny_pyNext_zip_item D hz st.ti hTO st.l1 st.l2 p.isList p2.isList (x := u) (y := u2) (by simpa using hu) (by simpa using hu2) fun h' hz' hTO' h1' h2' hT' hsz' hk' => ?_)
      exact fin h' ⟨hk' _ _ D.TIz D.TITO D.TIi1 D.TIi2 st.ti, h1', h2', .inr ⟨_, false, _, hz', hT', Nat.ne_of_gt zl, Nat.ne_of_gt tol, Nat.ne_of_gt i1l, Nat.ne_of_gt i2l, Nat.ne_of_gt hql⟩⟩ hT' hsz' hk'
    · refine wpAny_bind (PySem.wpAny_pyNext_zip_item_held D hz hT st.ti st.l1 st.l2 p.isList p2.isList (x := u) (y := u2) (by simpa using hu) (by simpa using hu2) fun h' hz' h1' h2' hT' hsz' hk' => ?_)
      exact fin h' ⟨hk' _ _ D.TIz D.TIi1 D.TIi2 st.ti, h1', h2', .inr ⟨T, true, oT, hz', hk' _ _ n1 n3 n4 hT, n1, n2, n3, n4, n5⟩⟩ hT' hsz' fun c o c1 _ c3 c4 e => hk' c o c1 c3 c4 e

def LzW (vs : List V) (H1 : Hp) (Q : VK) : Prop := ∃ (a b : Addr) (xs ys : List V), vs = [.ref a, .ref b] ∧ H1 a = some (.lst xs) ∧ H1 b = some (.lst ys) ∧ xs.length = ys.length ∧ xs.length < 100000 ∧
  ∀ (q : Addr) (ts : List Addr) (H' : Hp), H1 q = none → Same H1 H' → H' q = some (.lst (ts.map V.ref)) → ts.length = xs.length → (∀ (j : Nat) t, ts[j]? = some t → ∃ x y, xs[j]? = some x ∧ ys[j]? = some y ∧ H' t = some (.tup [x, y])) → Q (.ref q) H'
def tLzip (ta : TA) : TE := fun σ H Q => ta σ H fun vs H1 => LzW vs H1 Q
theorem nolen_zip : typeLookup (.type "zip") "__len__" = pure none := by rw [typeLookup_type, builtinLookup_eq_fast]; kernel_rfl
theorem nohint_zip : typeLookup (.type "zip") "__length_hint__" = pure none := by rw [typeLookup_type, builtinLookup_eq_fast]; kernel_rfl
theorem pe_lzip {e e2 : Expr} {ta : TA} {p1 p2 pos1 pos2 : Pos} (hc : X.calm = true) (hg : Gl X "list") (hm : X.mg "list" = none) (hgz : Gl X "zip") (hmz : X.mg "zip" = none) (ha : PA X [e, e2] ta)
    (h1 : starEach [.Call (.Name "zip" p2) [e, e2] [] pos2] X.env = [(false, eval (.Call (.Name "zip" p2) [e, e2] [] pos2) X.env)] := by rfl)
    (h2 : starEach [e, e2] X.env = (false, eval e X.env) :: starEach [e2] X.env := by rfl) (h3 : (backTo pos2 (starEach [e2] X.env)).any (·.1) = false := by rfl) :
    PE X (.Call (.Name "list" p1) [.Call (.Name "zip" p2) [e, e2] [] pos2] [] pos1) (tLzip ta) := by
  refine ⟨fun pins s σ H Q I h => ?_⟩
  refine wpAny_Call_Name_kw (ld_blt I hg hm L2.A.boot_list ?_)
  refine PyProof.Rows.callWith_type1 ?_ h1 rfl
  rw [h1]
  show wpAny _ _ (spliced [(false, eval (.Call (.Name "zip" p2) [e, e2] [] pos2) X.env)]) _ _ s
  refine Calls.spliced_cons ?_
  refine Call_ (ld_blt I hgz hmz PyProof.Rows.boot_zip (PyProof.Rows.callWith_type1 (thn (ha.run pos2 pins s σ H _ I h) fun us s1 ⟨vs, H1, I1, r1, q1⟩ => ?_) h2 h3))
  obtain ⟨a, b, xs, ys, ex, hqx, hqy, hlen, hsz, q1⟩ := q1
  subst ex
  cases r1 with
  | cons r rr =>
    cases rr with
    | cons r' rr =>
      cases rr
      cases r
      cases r'
      obtain ⟨its, rv, pl1, _⟩ := I1.list (.of hqx)
      obtain ⟨its2, rv2, pl2, _⟩ := I1.list (.of hqy)
      refine call_zip_2 pl1.isList pl2.isList fun h' hz hTI hTO hi1 hi2 hs5 hk => ?_
      refine Calls.spliced_nil ?_
      have D := PySem.W.ktu_apart s1.heap.objs.size a b pl1.lt pl2.lt
      have I2 : Inv X pins σ H1 { s1 with heap := h' } := I1.kept (t' := s1.toks) hk
      have hle5 : ∀ c ∈ [s1.heap.objs.size + 4, s1.heap.objs.size + 2, s1.heap.objs.size + 3, s1.heap.objs.size, s1.heap.objs.size + 1], s1.heap.objs.size ≤ c ∧ c < h'.objs.size := fun c hcm => by
        rw [hs5]
        rcases z5 hcm with e | e | e | e | e <;> rw [e] <;> exact ⟨by first | exact Nat.le_refl _ | exact Nat.le_add_right _ _, by first | exact Nat.lt_add_of_pos_right (by decide) | exact Nat.add_lt_add_left (by decide) _⟩
      refine callType_codes (Q₁ := fun obj s₁ => obj = .ref h'.objs.size ∧ s₁ = { s1 with heap := h'.push { cls := .type "list", data := .seq #[] } }) PySem.F.called_list (PySem.F.typeCall_list_1 _) PySem.F.entry_list_init
        (code_list_new _ ⟨rfl, rfl⟩) fun obj s₁ h₁ => ?_
      obtain ⟨rfl, rfl⟩ := h₁
      have hS : (h'.push { cls := .type "list", data := .seq #[] }).get? h'.objs.size = some { cls := .type "list", data := .seq #[] } := Heap.get?_push_size _ rfl
      refine ⟨⟨_, hS, rfl⟩, PySem.F.args_list_init_2 _ _, ?_⟩
      have fr : H1 h'.objs.size = none := I2.hok.fresh (Nat.le_refl _)
      have I3 : Inv X pins σ (upd H1 h'.objs.size (.lst [])) { s1 with heap := h'.push { cls := .type "list", data := .seq #[] } } := I2.lnew (its := []) (t' := s1.toks) .nil (Nat.zero_le _)
      show wpAny _ _ (do let old ← Builtin.List.listItems (.ref h'.objs.size); Builtin.List.listUpdate (.ref h'.objs.size) (fun _ => #[]); letGo old.toList.reverse; Builtin.List.listExtendWith (.ref h'.objs.size) (.ref (s1.heap.objs.size + 4)) .none) _ _ _
      refine wpAny_bind ?_
      unfold Builtin.List.listItems
      refine wpAny_bind (wpAny_seqItems hS rfl (wpAny_pure ?_))
      show wpAny _ _ (updateSeq h'.objs.size (fun _ => #[]) >>= fun _ => letGo (#[] : Array Value).toList.reverse >>= fun _ => Builtin.List.listExtendWith (.ref h'.objs.size) (.ref (s1.heap.objs.size + 4)) .none) _ _ _
      refine wpAny_bind (wpAny_updateSeq hS rfl ?_)
      have I4 := I3.lset (f := fun _ => #[]) (its := []) (its' := []) (ys := []) (t' := s1.toks) upd_same hS rfl .nil (Nat.zero_le _)
      rw [upd_upd] at I4
      refine wpAny_bind (wpAny_letGo ?_)
      have up : ∀ c o, c ≠ h'.objs.size → h'.get? c = some o → ((h'.push { cls := .type "list", data := .seq #[] }).update h'.objs.size (Obj.mapSeq fun _ => #[])).get? c = some o := fun c o hc e => (Heap.get?_update_other _ _ (Ne.symm hc)).trans (Heap.get?_push_of_some _ e)
      have hS4 := Heap.get?_update_self (Obj.mapSeq fun _ => (#[] : Array Value)) hS rfl
      generalize hh4 : (h'.push { cls := .type "list", data := .seq #[] }).update h'.objs.size (Obj.mapSeq fun _ => #[]) = h4 at I4 up hS4
      have sz4 : h4.objs.size = h'.objs.size + 1 := by rw [← hh4, Heap.size_update, Heap.size_push]
      have ne5 : ∀ c ∈ [s1.heap.objs.size + 4, s1.heap.objs.size + 2, s1.heap.objs.size + 3, s1.heap.objs.size, s1.heap.objs.size + 1], c ≠ h'.objs.size := fun c hcm => Nat.ne_of_lt (hle5 c hcm).2
      have O : ZOff (s1.heap.objs.size + 4) (s1.heap.objs.size + 2) (s1.heap.objs.size + 3) s1.heap.objs.size (s1.heap.objs.size + 1) h'.objs.size := ⟨ne5 _ (by simp), ne5 _ (by simp), ne5 _ (by simp), ne5 _ (by simp), ne5 _ (by simp)⟩
      have hz4 := up _ _ O.z hz
      clear hh4
      have naq : a ≠ h'.objs.size := ne_of_none hqx fr
      have nbq : b ≠ h'.objs.size := ne_of_none hqy fr
      have key : ∀ (h6 : Heap), (∀ c o, c ≠ h'.objs.size → h4.get? c = some o → h6.get? c = some o) → h4.objs.size ≤ h6.objs.size → Inv X pins σ (upd H1 h'.objs.size (.lst [])) { s1 with heap := h6 } →
          codeAny (model X.prog X.w) X.A.in1 (.builtin "list.extend.loop" ⟨[.ref h'.objs.size, .ref (s1.heap.objs.size + 4), .none], []⟩) (wants (fun r s₂ => r = .none ∧ EP X pins σ Q (.ref h'.objs.size) s₂) X.xe) { s1 with heap := h6 } := by
        intro h6 k6 l6 I6
        have hh1 : X.A.in1.in1.handled = none := I.ok.hd hc
        refine loopZ (A1 := X.A.in1) (H0 := H1) D O hh1 hlen (Nat.lt_of_lt_of_le hsz (by decide)) (fun ts H s' I' lt hq' hs' hp' => ?_) xs.length 0 [] _ _ (Nat.sub_zero _) (Nat.zero_le _) rfl I6 (fun c hcm => ⟨?_, ?_⟩) (ZSt.keep (h := h') ⟨hTI, hi1, hi2, .inl ⟨hz, _, _, hTO⟩⟩ O fun c o hc e => k6 c o hc (up c o hc e)) (by rw [upd_ne naq]; exact hqx) (by rw [upd_ne nbq]; exact hqy) naq nbq upd_same (fun c o hc e => by rw [upd_ne hc]; exact e) (fun j t hj => by simp at hj)
        · have sm : Same H1 H := fun c o e => hs' c o (ne_of_none e fr) e
          exact ⟨rfl, .ref h'.objs.size, H, I', rfl, q1 _ ts H fr sm hq' lt hp'⟩
        · have f := I1.fpOk (hle5 c hcm).1 (I1.hok.fresh (hle5 c hcm).1)
          exact ⟨by rw [upd_ne (ne5 c hcm)]; exact f.1, f.2⟩
        · show c < h6.objs.size
          exact Nat.lt_of_lt_of_le (hle5 c hcm).2 (Nat.le_trans (by rw [sz4]; exact Nat.le_succ _) l6)
      show wpAny _ _ (Builtin.List.listExtendWith (.ref h'.objs.size) (.ref (s1.heap.objs.size + 4)) .none) _ _ _
      unfold Builtin.List.listExtendWith
      refine wpAny_bind (wpAny_typeOf (T := "zip") ⟨_, hz4, rfl⟩ ?_)
      have g1 : Builtin.List.listSameRef (.ref h'.objs.size) (.ref (s1.heap.objs.size + 4)) = false := by simp [Builtin.List.listSameRef, Ne.symm O.z]
      have g2 : (Value.type "zip" == Value.type "list") = false := by decide
      have g3 : (Value.type "zip" == Value.type "tuple") = false := by decide
      simp only [g1, g2, g3, Bool.or_false, Bool.false_eq_true, if_false]
      refine wpAny_bind (wpAny_pyIter_zip hz4 ?_)
      refine wpAny_bind (wpAny_holding ?_)
      unfold Builtin.List.listLengthHint
      refine wpAny_bind (wpAny_specialOf (T := "zip") ⟨_, hz4, rfl⟩ nolen_zip ?_)
      show wpAny _ _ (specialOf (Value.ref (s1.heap.objs.size + 4)) (Str.ofString "__length_hint__") >>= _) _ _ _
      refine wpAny_bind (wpAny_specialOf (T := "zip") ⟨_, hz4, rfl⟩ nohint_zip ?_)
      refine wpAny_pure ?_
      show wpAny _ _ (rule "list.extend.makes-room" >>= fun _ => Builtin.List.listTouch (.ref h'.objs.size) >>= fun _ =>
        again (.builtin "list.extend.loop" ⟨[.ref h'.objs.size, .ref (s1.heap.objs.size + 4), .none], []⟩)) _ _ _
      refine wpAny_bind (wpAny_rule ?_)
      refine wpAny_bind ?_
      show wpAny _ _ (updateSeq h'.objs.size (·.push .none) >>= fun _ => updateSeq h'.objs.size (·.pop)) _ _ _
      obtain ⟨_, its3, n3, r3, l3, e3⟩ := I4.lstM upd_same
      cases r3
      refine wpAny_bind (wpAny_updateSeq e3 rfl ?_)
      have I5 := I4.lset (f := (·.push Value.none)) (its' := [Value.none]) (ys := [.non]) (t' := s1.toks) upd_same e3 (by simp) (.cons rfl .nil) (by rw [List.length_singleton, sizeLine_eq]; decide)
      rw [upd_upd] at I5
      obtain ⟨_, its5, n5, r5, l5, e5⟩ := I5.lstM upd_same
      obtain ⟨u5, rfl, ru5⟩ := r5.one
      refine wpAny_updateSeq e5 rfl ?_ (by show 1 ≤ sizeLine; rw [sizeLine_eq]; decide) (by show 0 ≤ sizeLine + 1; exact Nat.zero_le _)
      have I6 := I5.lset (f := (·.pop)) (its := [u5]) (its' := []) (ys := []) (t' := s1.toks) upd_same e5 (by rfl) .nil (Nat.zero_le _)
      rw [upd_upd] at I6
      exact wpAny_pure ⟨plainId_quiet PySem.F.plain_extend_loop _, key _ (fun c o hc e => (Heap.get?_update_other _ _ (Ne.symm hc)).trans ((Heap.get?_update_other _ _ (Ne.symm hc)).trans e)) (by rw [Heap.size_update, Heap.size_update]; exact Nat.le_refl _) I6⟩
end
end L2.A

namespace L2.A
open PySem PySem.Spec PyProof.Rows
section
variable {F H : Hp} {L : Cells} {Q : VK}
instance {σ : L2.St} {ta : TA} : Go (tLzip ta σ H Q) (ta σ H fun vs H1 => LzW vs H1 Q) := ⟨id⟩
theorem Sta.tupFs {ts : List Addr} {ps : List (V × V)} (st : Sta F L H) (h : All2 (fun t p => H t = some (.tup [p.1, p.2])) ts ps) : ∃ F', Same F F' ∧ All2 (fun t p => F' t = some (.tup [p.1, p.2])) ts ps ∧ Sta F' L H := by
  induction h generalizing F with
  | nil => exact ⟨F, .refl _, .nil, st⟩
  | cons e _ ih =>
    obtain ⟨F1, s1, e1, st1⟩ := st.tupF e
    obtain ⟨F2, s2, al, st2⟩ := ih st1
    exact ⟨F2, s1.trans s2, .cons (s2 _ _ e1) al, st2⟩
theorem zip_al {ts : List Addr} {xs ys : List V} (hl : xs.length = ys.length) (lt : ts.length = xs.length) (h : ∀ (j : Nat) t, ts[j]? = some t → ∃ x y, xs[j]? = some x ∧ ys[j]? = some y ∧ H t = some (.tup [x, y])) : All2 (fun t p => H t = some (.tup [p.1, p.2])) ts (xs.zip ys) := by
  induction ts generalizing xs ys with
  | nil =>
    cases xs with
    | nil => exact .nil
    | cons x xs => cases lt
  | cons t ts ih =>
    cases xs with
    | nil => cases lt
    | cons x xs =>
      cases ys with
      | nil => cases hl
      | cons y ys =>
        obtain ⟨x', y', e1, e2, e3⟩ := h 0 t rfl
        cases e1; cases e2
        exact .cons e3 (ih (Nat.succ.inj hl) (Nat.succ.inj lt) fun j t hj => by
          obtain ⟨x', y', e1, e2, e3⟩ := h (j + 1) t hj
          exact ⟨x', y', e1, e2, e3⟩)
theorem go_lzipS {a b : Addr} {xs ys : List V} (st : Sta F L H) (ha : H a = some (.lst xs)) (hb : H b = some (.lst ys)) (hl : xs.length = ys.length) (hz : xs.length < 100000)
    (h : ∀ (q : Addr) (ts : List Addr) (F' H' : Hp), Same F F' → All2 (fun t p => F' t = some (.tup [p.1, p.2])) ts (xs.zip ys) → Sta F' ((q, .lst (ts.map V.ref)) :: L) H' → Q (.ref q) H') : LzW [.ref a, .ref b] H Q :=
  ⟨a, b, xs, ys, rfl, ha, hb, hl, hz, fun q ts H' hq s e lt hp => by
    have st1 := st.newL hq s e rfl
    obtain ⟨F', s', al, st2⟩ := st1.tupFs (zip_al hl lt hp)
    exact h q ts F' H' s' al st2⟩
end
end L2.A


namespace L2.A
open PySem PySem.Spec PyProof.Rows
/-! ### len(set(xs)), xs a list of texts -/
/-- how many unlike texts stand ahead of place i -/
def cntT (xs : List Str) : Nat → Nat
  | 0 => 0
  | i + 1 => if (xs.take i).any (· == xs.getD i Str.empty) then cntT xs i else cntT xs i + 1
theorem cntT_le (xs : List Str) : ∀ i, cntT xs i ≤ i
  | 0 => Nat.le_refl _
  | i + 1 => by
    unfold cntT
    have := cntT_le xs i
    split <;> omega
theorem take_getD {xs : List Str} {i : Nat} (h : i < xs.length) : xs.take (i + 1) = xs.take i ++ [xs.getD i Str.empty] := by
  rw [List.take_add_one, List.getElem?_eq_getElem h, List.getD_eq_getElem?_getD, List.getElem?_eq_getElem h]; rfl
theorem cntT_nd {xs : List Str} : ∀ {i : Nat}, i ≤ xs.length → (cntT xs i = i ↔ (xs.take i).Nodup)
  | 0, _ => by simp [cntT]
  | i + 1, h => by
    have ih := cntT_nd (xs := xs) (i := i) (by omega)
    have l := cntT_le xs i
    rw [take_getD (by omega), List.nodup_append]
    unfold cntT
    by_cases c : (xs.take i).any (· == xs.getD i Str.empty) = true
    · rw [if_pos c]
      refine ⟨fun e => (by omega), fun ⟨_, _, h3⟩ => ?_⟩
      obtain ⟨y, my, ey⟩ := List.any_eq_true.mp c
      exact absurd (eq_of_beq ey) (h3 y my _ (List.mem_singleton.mpr rfl))
    · rw [if_neg c]
      refine ⟨fun e => ⟨ih.mp (by omega), by simp, fun y my z mz e2 => c ?_⟩, fun ⟨h1, _, _⟩ => by rw [ih.mpr h1]⟩
      rw [List.mem_singleton] at mz
      exact List.any_eq_true.mpr ⟨y, my, by rw [e2, mz]; exact beq_self_eq_true _⟩
theorem cntT_lt {xs : List Str} : cntT xs xs.length < xs.length ↔ ¬ xs.Nodup := by
  have h := cntT_nd (xs := xs) (Nat.le_refl _)
  rw [List.take_length] at h
  have l := cntT_le xs xs.length
  rw [← h]
  omega
section
variable {prog : Program} {w : World} {A : Around} {R : Result → Shared → Prop} {I : Addr} {fp wr : List Addr} {G : Array GenState → Array GenState → Prop} {n : Nat} {P : Nat → Value → Prop} {St : Nat → Shared → Prop}
theorem loop_setT (W : WalksS prog w A.in1 I fp wr G n P St) (S : Addr) (hSf : S ∉ fp) (xs : List Str) (hsz : xs.length = n) (hval : ∀ i v, P i v → ∃ t, v = .str (xs.getD i Str.empty) t) (hb : n + 1 < scanBound) :
    ∀ (k i : Nat) (s : Shared), n - i = k → i ≤ n → St i s → s.heap.SetOf (PySem.strKind prog w) S (fun k' => (xs.take i).any (· == k')) (cntT xs i) →
      (∀ s', Moved (S :: wr) G s s' → s'.heap.SetOf (PySem.strKind prog w) S (fun k' => (xs.take n).any (· == k')) (cntT xs n) → R (.ok (.ret .none)) s') →
      codeAny (model prog w) A (.builtin "set.update.loop" ⟨[.ref S, .ref I], []⟩) R s := by
  have hSw : S ∉ wr := fun h => hSf (W.sub _ h)
  have hsub : ∀ b ∈ wr, b ∈ S :: wr := fun b hb => List.mem_cons_of_mem _ hb
  intro k
  induction k with
  | zero =>
    intro i s hk hi hst hS hR
    have hin : i = n := by omega
    subst hin
    refine codeAny_builtin PyProof.Rows.F.entry_set_update_loop ?_
    rw [Around.under_plainId PyProof.Rows.F.plain_set_update_loop _]
    show wpAny _ A.in1 (pyNext (.ref I) >>= _) _ _ s
    refine wpAny_bind (W.done s _ _ hst fun s' hm => ?_)
    show wpAny _ A.in1 (ret Value.none) _ _ s'
    exact wpAny_pure (hR s' (hm.mono hsub) (by
      obtain ⟨o, es, ep, t, ho, rest⟩ := hS
      exact ⟨o, es, ep, t, hm.heap S _ hSw ho, rest⟩))
  | succ k ih =>
    intro i s hk hi hst hS hR
    have hlt : i < n := by omega
    refine codeAny_builtin PyProof.Rows.F.entry_set_update_loop ?_
    rw [Around.under_plainId PyProof.Rows.F.plain_set_update_loop _]
    show wpAny _ A.in1 (pyNext (.ref I) >>= _) _ _ s
    refine wpAny_bind (W.item i s _ _ hlt hst fun v s' hP hst' hm => ?_)
    obtain ⟨t, rfl⟩ := hval i v hP
    have hS' : s'.heap.SetOf (PySem.strKind prog w) S (fun k' => (xs.take i).any (· == k')) (cntT xs i) := by
      obtain ⟨o, es, ep, tb, ho, rest⟩ := hS
      exact ⟨o, es, ep, tb, hm.heap S _ hSw ho, rest⟩
    show wpAny _ A.in1 (holding [Value.str (xs.getD i Str.empty) t] (setAdd S (.str (xs.getD i Str.empty) t)) >>= _) _ _ s'
    refine wpAny_bind (wpAny_holding ?_)
    unfold setAdd
    refine wpAny_holding ?_
    refine wpAny_bind ((PySem.strKind prog w).pyHash (k := xs.getD i Str.empty) (strKind_is _ _ _ _) ?_)
    have hroom : cntT xs i + 1 < scanBound := by have := cntT_le xs i; omega
    refine wpAny_setAddHashed_of (knd := PySem.strKind prog w) (s := { s' with toks := s'.toks + 1 }) (strKind_is _ _ _ _) rfl hS' hroom fun h' hsb hS2 => ?_
    have hSi : h'.SetOf (PySem.strKind prog w) S (fun k' => (xs.take (i + 1)).any (· == k')) (cntT xs (i + 1)) := by
      refine SetOf_congr hS2 (fun k' => ?_) rfl
      rw [take_getD (by omega), List.any_append]
      congr 1
      show decide (k' = xs.getD i Str.empty) = (xs.getD i Str.empty == k' || false)
      rw [Bool.or_false]
      by_cases e : k' = xs.getD i Str.empty
      · rw [decide_eq_true e, e]; exact (beq_self_eq_true _).symm
      · rw [decide_eq_false e]; exact (beq_eq_false_iff_ne.mpr fun h => e h.symm).symm
    refine wpAny_pure ⟨plainId_quiet PyProof.Rows.F.plain_set_update_loop _, ih (i + 1) _ (by omega) hlt (W.frame _ s' _ _ hst' (Nat.le_succ _) fun b hb o e => ?_) hSi fun s'' hm'' hS'' => ?_⟩
    · rw [hsb.2 b (fun h : b = S => hSf (by rw [← h]; exact hb))]; exact e
    · refine hR s'' (Moved.trans W.gtrans ((hm.mono hsub).then_heap (Nat.le_succ _) fun b o hb e => ?_) hm'') hS''
      rw [hsb.2 b (fun h : b = S => hb (by rw [h]; exact List.mem_cons_self))]; exact e
end
section
variable {prog : Program} {w : World} {A : Around} {E : Value → Shared → Prop} {s : Shared}
set_option maxRecDepth 100000 in
set_option maxHeartbeats 3200000 in
theorem call_setT {l : Addr} {items : Array Value} {ns : List Str} {Q : Value → Shared → Prop}
    (hh : A.handled = none) (hl : s.heap.IsList l items) (hi : PyProof.Rows.StrsAre items.toList ns) (hb : items.size + 1 < scanBound)
    (h : ∀ (h' : Heap) (tk : Nat), h'.SetOf (PySem.strKind prog w) s.heap.objs.size (fun k' => (ns.take items.size).any (· == k')) (cntT ns items.size) →
      (∀ b o, b < s.heap.objs.size → s.heap.get? b = some o → h'.get? b = some o) → Q (.ref s.heap.objs.size) { s with heap := h', toks := tk }) :
    wpAny (model prog w) A (call (.type "set") [.ref l]) Q E s := by
  obtain ⟨c, tl, hmro⟩ := PySem.F.called_set.mro
  have hmade := PySem.F.called_set.made
  have hsub := PySem.F.called_set.sub
  refine wpAny_call (codeAny_of_tree ?_)
  show wpAny _ _ (callAny (.type "set") _) _ _ _
  refine wpAny_pure ⟨Code.quiet_builtin _ (by decide +kernel), codeAny_builtin PySem.F.entry_type_call ?_⟩
  rw [Around.under_plain (weight_type_call_type "set" [.ref l] []) rfl]
  have h1 := PySem.F.called_set.notType
  have h2 := PySem.F.called_set.canCreate
  have hct := PySem.F.typeCall_set_1 (.ref l)
  repeat (any_goals (first | assumption | wp_step))
  generalize hled : (!w.params.followText "set-order") = led
  refine codeAny_mono (code_setL (.ref l) (E := E) (Q₁ := fun obj s₁ => obj = .ref s.heap.objs.size ∧ s₁ = { s with heap := s.heap.push { cls := .type "set", dict := none, data := .set #[] 0 (.fresh 0 0 led) } }) ⟨rfl, by rw [hled]⟩) fun r s₁ hr => ?_
  cases r with
  | error e => exact hr
  | ok fl =>
    cases fl with
    | ret obj =>
      obtain ⟨rfl, rfl⟩ := hr
      have hS : (s.heap.push { cls := .type "set", dict := none, data := .set #[] 0 (.fresh 0 0 led) }).get? s.heap.objs.size = some { cls := .type "set", dict := none, data := .set #[] 0 (.fresh 0 0 led) } := Heap.get?_push_size _ rfl
      have hT : Shared.TypeIs { s with heap := s.heap.push { cls := .type "set", dict := none, data := .set #[] 0 (.fresh 0 0 led) } } (.ref s.heap.objs.size) "set" := ⟨_, hS, rfl⟩
      have hli := PySem.F.called_set.init.lookup
      have hbi := PySem.F.called_set.init.bind (.ref s.heap.objs.size)
      repeat (any_goals (first | assumption | wp_step))
      refine codeAny_mono (codeAny_call_builtin (R := wants (fun r s₂ => r = .none ∧ ∃ h' tk, s₂ = { s with heap := h', toks := tk } ∧
          h'.SetOf (PySem.strKind prog w) s.heap.objs.size (fun k' => (ns.take items.size).any (· == k')) (cntT ns items.size) ∧
          (∀ b o, b < s.heap.objs.size → s.heap.get? b = some o → h'.get? b = some o)) E) PySem.F.called_set.init.plain PySem.F.entry_set_init (check_set_init_1 hT ?_)) fun r₂ s₂ hr₂ => ?_
      · obtain ⟨ol, hol, hcl, nl, hdl⟩ := hl
        obtain ⟨ocls, odict, odata, oslots⟩ := ol
        simp only at hcl hdl
        subst hcl; subst hdl
        have hol' : (s.heap.push { cls := .type "set", dict := none, data := .set #[] 0 (.fresh 0 0 led) }).get? l = some { cls := .type "list", dict := odict, data := .seq items nl, slots := oslots } := Heap.get?_push_of_some _ hol
        have hsls := PySem.F.sub_list_set
        have hslf := PySem.F.sub_list_frozenset
        have hne : (Value.type "list" == Value.type "dict") = false := by decide
        have hl1 : (s.heap.push { cls := .type "set", dict := none, data := .set #[] 0 (.fresh 0 0 led) }).IsList l items := ⟨_, hol', rfl, nl, rfl⟩
        unfold Builtin.«set.__init__» noKeywords Builtin.Frozenset.updateFrom
        generalize hPI : pyIter = PI
        wp_walk
        subst hPI
        refine wpAny_pyIter_list hl1 ?_
        refine wpAny_bind (wpAny_runValue ?_)
        have hlS : l < s.heap.objs.size := Heap.lt_size hol
        have hh3 : A.in1.in1.in1.handled = none := by simp [hh]
        have hneI : l ≠ (s.heap.push { cls := .type "set", dict := none, data := .set #[] 0 (.fresh 0 0 led) }).objs.size := by
          rw [Heap.size_push]; exact Nat.ne_of_lt (Nat.lt_succ_of_lt hlS)
        have hSf : s.heap.objs.size ∉ [(s.heap.push { cls := .type "set", dict := none, data := .set #[] 0 (.fresh 0 0 led) }).objs.size, l] := by
          rw [Heap.size_push]; simp only [List.mem_cons, List.mem_singleton, List.not_mem_nil, or_false, not_or]
          exact ⟨Nat.ne_of_lt (Nat.lt_succ_self _), Nat.ne_of_gt hlS⟩
        have hsz : ns.length = items.size := by rw [← StrsAre.len_eq hi, Array.length_toList]
        have hval : ∀ (i : Nat) (v : Value), items[i]? = some v → ∃ t, v = .str (ns.getD i Str.empty) t := fun i v hv => SS.strs_at hi i v (by rw [Array.getElem?_toList]; exact hv)
        refine loop_setT ((Walks.list hh3 _ l hneI items).toS) s.heap.objs.size
          hSf ns hsz hval hb (items.size - 0) 0 _ (by omega) (Nat.zero_le _)
          ⟨⟨_, Heap.get?_push_size _ rfl, rfl, rfl⟩, (hl1.push _)⟩ ?hS0 ?hR
        case hS0 =>
          have hget : ((s.heap.push { cls := .type "set", dict := none, data := .set #[] 0 (.fresh 0 0 led) }).push { cls := .type "list_iterator", data := .fields #[.ref l, .int 0 0] }).get? s.heap.objs.size
              = some { cls := .type "set", dict := none, data := .set #[] 0 (.fresh 0 0 led) } := Heap.get?_push_of_some _ hS
          exact PyProof.Rows.SetOf_congr ((PyProof.Rows.setObjOf_fresh (knd := PySem.strKind prog w) led).setOf hget (by unfold scanBound; omega)) (fun _ => rfl) rfl
        case hR =>
          intro s' hm hS'
          obtain ⟨h', g', d', tk', os'⟩ := s'
          have eg : g' = s.gens := hm.gens
          have ed : d' = s.drawn := hm.drawn
          have eo : os' = s.os := hm.os
          subst eg; subst ed; subst eo
          show wpAny _ _ _ _ _ _
          refine wpAny_pure ?_
          show wpAny _ _ (ret Value.none) _ _ _
          refine wpAny_pure ⟨rfl, h', tk', rfl, hS', fun b o hb e => ?_⟩
          have hb1 : b ≠ s.heap.objs.size := Nat.ne_of_lt hb
          have hb2 : b ≠ (s.heap.push { cls := .type "set", dict := none, data := .set #[] 0 (.fresh 0 0 led) }).objs.size := by
            rw [Heap.size_push]; exact Nat.ne_of_lt (Nat.lt_succ_of_lt hb)
          exact hm.heap b o (by simp only [List.mem_cons, List.mem_singleton, List.not_mem_nil, or_false, not_or]; exact ⟨hb1, hb2⟩) (Heap.get?_push_of_some _ (Heap.get?_push_of_some _ e))
      · cases r₂ with
        | error e => exact hr₂
        | ok fl₂ =>
          cases fl₂ with
          | ret r =>
            obtain ⟨rfl, h', tk, rfl, hS', hk'⟩ := hr₂
            repeat (any_goals (first | assumption | wp_step))
            exact h _ _ hS' hk'
          | _ => exact hr₂.elim
    | _ => exact hr.elim
end
section
variable {X : Cx}
/-- len(set(xs)), xs a list of texts -/
def LnW (K : PySem.W.Frag) (x : V) (H1 : Hp) (Q : VK) : Prop := ∃ l, ∃ xs : List Str, x = .ref l ∧ SqL K H1 l (xs.map V.str) ∧ xs.length ≤ 400 ∧ Q (.int (cntT xs xs.length : Nat)) H1
def tLenS (K : PySem.W.Frag) (ta : TE) : TE := fun σ H Q => ta σ H fun x H1 => LnW K x H1 Q
theorem pe_lenS {a : Expr} {ta : TE} {p p2 q pos : Pos} (hc : X.calm = true) (hg : Gl X "len") (hm : X.mg "len" = none) (hg2 : Gl X "set") (hm2 : X.mg "set" = none) (ha : PE X a ta)
    (na : starEach [a] X.env = (false, eval a X.env) :: starEach [] X.env := by rfl) : PE X (.Call (.Name "len" p) [.Call (.Name "set" p2) [a] [] q] [] pos) (tLenS X.K ta) := by
  refine ⟨fun pins s σ H Q I h => ?_⟩
  refine Call_ (ld_blt I hg hm boot_len ?_)
  refine PyProof.Rows.callWith_builtin1 (PyProof.Rows.args_cons ?_ rfl) rfl rfl
  refine Call_ (ld_blt I hg2 hm2 boot_set ?_)
  refine PyProof.Rows.callWith_type1 (PyProof.Rows.args_cons (thn (ha.run pins s σ H _ I h) fun v s1 ⟨x, H1, I1, r1, q1⟩ => PyProof.Rows.args_nil ?_) na) na rfl
  obtain ⟨l, xs, rfl, hq, h1, q1⟩ := q1
  cases r1
  obtain ⟨its, r, pl, hz⟩ := I1.list hq
  have hl : its.toArray.size = xs.length := by rw [List.size_toArray, ← r.length, List.length_map]
  refine call_setT (I1.ok.hd hc) pl.isList (ns := xs) (by simpa using strsAre_of r) (by rw [hl]; unfold scanBound; omega) fun h' tk hS hk => ?_
  refine PyProof.Rows.args_nil ?_
  rw [hl] at hS
  obtain ⟨o, es, ep, t, ho, hex, hd, _, _, _, hf, hn⟩ := hS
  have I2 : Inv X pins σ H1 { s1 with heap := h', toks := tk } := I1.kept fun b o e => hk b o (Heap.lt_size e) e
  have := cntT_le xs xs.length
  exact call_len_set ho hex hd hf (by rw [hn] <;> omega) ⟨.int (cntT xs xs.length : Nat), H1, I2.tok _, ⟨_, by rw [hn]⟩, q1⟩
instance {K : W.Frag} {σ : L2.St} {H : Hp} {Q : VK} {ta : TE} : Go (tLenS K ta σ H Q) (ta σ H fun (x : V) (H1 : Hp) => LnW K x H1 Q) := ⟨id⟩
/-- str(x), x a text or a whole number -/
def rStrB : List V → Hp → VK → Prop := fun xs H Q => (∃ i, xs = [V.int i] ∧ i.natAbs.log2 < 1920 ∧ Q (.str (toString i)) H) ∨ ∃ a, xs = [V.str a] ∧ Q (.str a) H
theorem call_strB : CallR X (.type "str") rStrB := fun pins s σ H xs us Q I rs h => h.elim (call_str_int pins s σ H xs us Q I rs) (SkE.call_str_str pins s σ H xs us Q I rs)
theorem go_lset {K : PySem.W.Frag} {H : Hp} {Q : VK} {l : Addr} {xs : List Str} (hl : SqL K H l (xs.map V.str)) (hn : xs.length ≤ 400) (h : Q (.int (cntT xs xs.length : Nat)) H) : LnW K (.ref l) H Q :=
  ⟨l, xs, rfl, hl, hn, h⟩
end
end L2.A

namespace L2.Toy
open PySem PySem.Spec PyProof.Rows L2.A
local macro_rules | `(tactic| walk_at "put") => `(tactic| first | exact rfl)
local macro_rules | `(tactic| walk_at "sqT") => `(tactic| first | assumption | exact .of upd_same | exact .of (by assumption) | exact seqT_same (by assumption) (by walk_at "same") | exact .of (ge2 (by assumption) (by walk_at "same")))
local macro_rules | `(tactic| walk_at "sqL") => `(tactic| first | assumption | exact .of upd_same | exact .of (by assumption) | exact seqL_same (by assumption) (by walk_at "same") | exact .of (ge2 (by assumption) (by walk_at "same")))
local macro_rules | `(tactic| walk_at "obj") => `(tactic| first | exact upd_same | assumption | exact ge2 (by assumption) (by walk_at "same"))
local macro_rules | `(tactic| walk_at "ty") => `(tactic| first | exact tyV_s | exact tyV_l (by walk_at "sqL") | exact tyV_d (by walk_at "obj") | exact tyV_dT (by walk_at "obj"))
local macro_rules | `(tactic| walk_at "slow") => `(tactic| first | ((with_reducible refine' orV_join ?b ?_); (case b => (intro QB' hQ; (walk_at "*"); exact hQ))) | fail)
local macro_rules | `(tactic| walk_at "slow") => `(tactic| first | ((with_reducible refine' andV_join ?b ?_); (case b => (intro QB' hQ; (walk_at "*"); exact hQ))) | fail)
local macro_rules | `(tactic| walk_at "slow") => `(tactic| first | ((with_reducible refine' or_join ?b ?_); (case b => (intro QB' hQ; (walk_at "*"); exact hQ))) | fail)
local macro_rules | `(tactic| walk_at "slow") => `(tactic| first | ((with_reducible refine' and_join ?b ?_); (case b => (intro QB' hQ; (walk_at "*"); exact hQ))) | fail)
local macro_rules | `(tactic| walk_at "slow") => `(tactic| first | ((with_reducible refine' go_append ?a ?b ?_); (case a => walk_at "obj"); (case b => first | exact Nat.lt_of_succ_le (Nat.le_of_ble_eq_true rfl) | omega | (simp only [List.length_append, List.length_cons, List.length_nil, List.length_map]; omega))) | fail)
local macro_rules | `(tactic| walk_at "slow") => `(tactic| first | ((with_reducible refine' go_bmW0 ?a ?_); (case a => walk_at "ty")) | fail)
local macro_rules | `(tactic| walk_at "slow") => `(tactic| first | ((with_reducible refine' go_bmW ?a ?_); (case a => walk_at "ty")) | fail)
local macro_rules | `(tactic| walk_at "slow") => `(tactic| first | ((with_reducible refine' go_p2 ?e ?_); (case e => (simp only [List.set_cons_zero, List.set_cons_succ]; rfl))) | fail)
local macro_rules | `(tactic| walk_at "slow") => `(tactic| first | ((with_reducible refine' go_p3 ?e ?_); (case e => (simp only [List.set_cons_zero, List.set_cons_succ]; rfl))) | fail)
local macro_rules | `(tactic| walk_at "slow") => `(tactic| first | with_reducible refine go_ipA ?_ | fail)
local macro_rules | `(tactic| walk_at "slow") => `(tactic| first | ((with_reducible refine' go_aug ?e ?_); (case e => exact rfl)) | fail)
local macro_rules | `(tactic| walk_at "slow") => `(tactic| first | ((with_reducible refine go_rvR ?e ?_); (case e => omega)) | fail)
local macro_rules | `(tactic| walk_at "slow") => `(tactic| first | ((with_reducible refine go_isY ?_); (fail_if_success (with_reducible show rIsiX _ [V.ref _, V.ref _] _ _))) | fail)
local macro_rules | `(tactic| walk_at "slow") => `(tactic| first | ((with_reducible refine' go_isQT ?a ?b ?c ?d ?e ?f ?_); (case a => walk_at "obj"); (case b => assumption); (case c => walk_at "obj"); (case d => first | exact upd_same | (walk_at "obj")); (case e => (repeat (first | exact .nil | refine .cons (.own _) ?_ | refine .cons (.ty _) ?_))); (case f => (simp only [PySem.W.kitAny, *]))) | fail)
local macro_rules | `(tactic| walk_at "slow") => `(tactic| first | ((with_reducible refine' go_isQ ?a ?b ?c ?d ?e ?_); (case a => walk_at "obj"); (case b => assumption); (case c => walk_at "obj"); (case d => first | exact .ty _ | exact .own _); (case e => assumption)) | fail)
local macro_rules | `(tactic| walk_at "slow") => `(tactic| first | ((with_reducible refine' go_xqW ?a ?b ?c ?d ?e ?_); (case a => walk_at "obj"); (case b => exact ExcD.xf (by assumption)); (case c => assumption); (case d => walk_at "obj"); (case e => exact rfl)) | fail)
local macro_rules | `(tactic| walk_at "slow") => `(tactic| first | ((with_reducible refine' go_methSW ?a ?b ?_); (case a => walk_at "obj"); (case b => exact rfl)) | fail)
local macro_rules | `(tactic| walk_at "slow") => `(tactic| first | ((with_reducible refine' go_methW ?a ?b ?_); (case a => walk_at "obj"); (case b => exact rfl)) | fail)
local macro_rules | `(tactic| walk_at "slow") => `(tactic| first | ((with_reducible refine' go_astW ?a ?b ?e ?_); (case a => walk_at "obj"); (case b => exact rfl); (case e => walk_at "put")) | fail)
local macro_rules | `(tactic| walk_at "slow") => `(tactic| first | ((with_reducible refine' go_faugW ?a ?b ?c ?d ?_); (case a => walk_at "obj"); (case b => assumption); (case c => assumption); (case d => exact rfl)) | fail)
local macro_rules | `(tactic| walk_at "slow") => `(tactic| first | ((with_reducible refine' go_gfldW ?a ?b ?c ?d ?e ?_); (case a => walk_at "obj"); (case b => assumption); (case c => assumption); (case d => exact rfl); (case e => walk_at "put")) | fail)
local macro_rules | `(tactic| walk_at "slow") => `(tactic| first | ((with_reducible refine' go_sfldW ?a ?b ?c ?d ?e ?_); (case a => walk_at "obj"); (case b => assumption); (case c => assumption); (case d => exact rfl); (case e => walk_at "put")) | fail)
local macro_rules | `(tactic| walk_at "slow") => `(tactic| first | ((with_reducible refine' go_fldW ?a ?b ?c ?d ?_); (case a => walk_at "obj"); (case b => assumption); (case c => assumption); (case d => exact rfl)) | fail)
local macro_rules | `(tactic| walk_at "slow") => `(tactic| first | ((with_reducible refine' go_lenL ?a ?_); (case a => walk_at "sqL")) | fail)
local macro_rules | `(tactic| walk_at "slow") => `(tactic| first | ((with_reducible refine' go_lenT ?a ?_); (case a => walk_at "sqT")) | fail)
local macro_rules | `(tactic| walk_at "slow") => `(tactic| first | ((with_reducible refine' go_lenS ?a ?_); (case a => exact szl (by omega))) | fail)
local macro_rules | `(tactic| walk_at "slow") => `(tactic| first | ((with_reducible refine' go_isi ?e ?f ?_); (case e => first | exact .base (.int _) | exact .base (.bl _) | exact .base (.str _) | exact .base .non | exact .base (.tup (by assumption)) | exact .base (.lst (by assumption)) | exact .base (.tup (ge2 (by assumption) (by walk_at "same"))) | exact .base (.lst (ge2 (by assumption) (by walk_at "same"))) | ((refine' TyX.base (.lst ?a)); (case a => walk_at "obj")) | ((refine' TyX.base (.tup ?a)); (case a => walk_at "obj")) | fail); (case f => first | exact kit_ii | exact kit_ib | exact kit_bb | exact kit_bi | exact kit_ss | exact kit_nb | exact kit_ni | exact kit_ns | exact kit_nt | exact kit_is | exact kit_si | exact kit_sb | exact kit_bs | exact kit_tt | exact kit_ll | exact kit_tl | exact kit_lt | exact kit_nl | exact kit_il | exact kit_it | exact kit_sl | exact kit_st)) | fail)
local macro_rules | `(tactic| walk_at "slow") => `(tactic| first | with_reducible refine go_abs ?_ | fail)
local macro_rules | `(tactic| walk_at "slow") => `(tactic| first | with_reducible refine go_yes ?_ | fail)
local macro_rules | `(tactic| walk_at "slow") => `(tactic| first | ((with_reducible refine go_rn2 ?e ?_); (case e => omega)) | fail)
local macro_rules | `(tactic| walk_at "slow") => `(tactic| first | ((with_reducible refine go_rn1 ?e ?_); (case e => omega)) | fail)
local macro_rules | `(tactic| walk_at "slow") => `(tactic| first | ((with_reducible refine' go_dispK ?a ?b ?c ?_); (case a => first | exact upd_same | assumption); (case b => exact rfl); (case c => exact rfl)) | fail)
local macro_rules | `(tactic| walk_at "slow") => `(tactic| first | ((with_reducible refine' go_slT ?a ?b ?c ?_); (case a => walk_at "sqT"); (case b => exact rfl); (case c => exact rfl)) | fail)
local macro_rules | `(tactic| walk_at "slow") => `(tactic| first | ((with_reducible refine' go_gtupL ?a ?b ?_); (case a => walk_at "sqL"); (case b => exact rfl)) | fail)
local macro_rules | `(tactic| walk_at "slow") => `(tactic| first | ((with_reducible refine' go_gtupT ?a ?b ?_); (case a => walk_at "sqT"); (case b => exact rfl)) | fail)
local macro_rules | `(tactic| walk_at "slow") => `(tactic| first | ((with_reducible refine' go_gtup ?a ?b ?_); (case a => walk_at "sqT"); (case b => exact rfl)) | fail)
local macro_rules | `(tactic| walk_at "slow") => `(tactic| first | ((with_reducible refine' go_xL ?a ?b ?_); (case a => walk_at "sqL"); (case b => first | exact rfl | exact at0 | exact at1 | exact at2 | exact at3 | fail)) | fail)
local macro_rules | `(tactic| walk_at "slow") => `(tactic| first | ((with_reducible refine' go_xT ?a ?b ?_); (case a => walk_at "sqT"); (case b => first | exact rfl | exact at0 | exact at1 | exact at2 | exact at3 | fail)) | fail)
local macro_rules | `(tactic| walk_at "slow") => `(tactic| first | with_reducible refine go_ifx ?_ | fail)
local macro_rules | `(tactic| walk_at "slow") => `(tactic| first | with_reducible refine go_orV ?_ | fail)
local macro_rules | `(tactic| walk_at "slow") => `(tactic| first | with_reducible refine go_andV ?_ | fail)
local macro_rules | `(tactic| walk_at "slow") => `(tactic| first | with_reducible refine go_or ?_ | fail)
local macro_rules | `(tactic| walk_at "slow") => `(tactic| first | with_reducible refine go_and ?_ | fail)
local macro_rules | `(tactic| walk_at "slow") => `(tactic| first | ((with_reducible refine' go_ifxP ?a ?b ?c ?_); (case a => (intro QB' hQ; (walk_at "*"); exact hQ)); (case b => (intro QB' hQ; (walk_at "*"); exact hQ)); (case c => (intro QB' hQ; (walk_at "*"); exact hQ))) | fail)
local macro_rules | `(tactic| walk_at "slow") => `(tactic| first | ((with_reducible refine' go_orVP ?a ?b ?_); (case a => (intro QB' hQ; (walk_at "*"); exact hQ)); (case b => (intro QB' hQ; (walk_at "*"); exact hQ))) | fail)
local macro_rules | `(tactic| walk_at "slow") => `(tactic| first | ((with_reducible refine' go_andVP ?a ?b ?_); (case a => (intro QB' hQ; (walk_at "*"); exact hQ)); (case b => (intro QB' hQ; (walk_at "*"); exact hQ))) | fail)
local macro_rules | `(tactic| walk_at "slow") => `(tactic| first | ((with_reducible refine' go_orP ?a ?b ?_); (case a => (intro QB' hQ; (walk_at "*"); exact hQ)); (case b => (intro QB' hQ; (walk_at "*"); exact hQ))) | fail)
local macro_rules | `(tactic| walk_at "slow") => `(tactic| first | ((with_reducible refine' go_andP ?a ?b ?_); (case a => (intro QB' hQ; (walk_at "*"); exact hQ)); (case b => (intro QB' hQ; (walk_at "*"); exact hQ))) | fail)
local macro_rules | `(tactic| walk_at "slow") => `(tactic| first | with_reducible refine go_newL rfl ?_ | fail)
local macro_rules | `(tactic| walk_at "slow") => `(tactic| first | with_reducible refine go_newT rfl ?_ | fail)
local macro_rules | `(tactic| walk_at "slow") => `(tactic| first | ((with_reducible refine go_neS ?e ?_); (case e => exact rfl)) | fail)
local macro_rules | `(tactic| walk_at "slow") => `(tactic| first | ((with_reducible refine go_eqS ?e ?_); (case e => exact rfl)) | fail)
local macro_rules | `(tactic| walk_at "slow") => `(tactic| first | ((with_reducible refine go_I ?e ?_); (case e => (first | omega | (show CDiv _ _; unfold CDiv; omega) | (show (0 : Int) < _; omega)))) | fail)
local macro_rules | `(tactic| walk_at "slow") => `(tactic| first | ((with_reducible refine go_mulI ?e ?_); (case e => (show CMul _ _; unfold CMul; omega))) | fail)
local macro_rules | `(tactic| walk_at "slow") => `(tactic| first | ((with_reducible refine' go_name ?e ?_); (case e => (simp only [List.set_cons_zero, List.set_cons_succ]; rfl))) | fail)
local macro_rules | `(tactic| walk_at "slow") => `(tactic| first | ((with_reducible refine' go_var ?e ?_); (case e => exact rfl)) | fail)

local macro_rules | `(tactic| walk_at "*") => `(tactic| ((try dsimp only); (repeat walk_at "1")))
local macro_rules | `(tactic| walk_at "same") => `(tactic| first
  | exact Same.refl _
  | assumption
  | ((refine same_new2 ?_ ?h); (case h => assumption); (walk_at "same"))
  | ((refine same_mut ?_ ?h); (case h => assumption); (walk_at "same"))
  | ((refine same_mut ?_ ?h); (case h => exact Same.free (by walk_at "same") (by assumption)); (walk_at "same"))
  | ((refine' Same.trans ?_ ?h); (case h => assumption); (walk_at "same"))
  | fail)
local macro_rules | `(tactic| walk_at "all") => `(tactic| ((walk_at "*"); first
  | ((refine if2 (fun c => ?_) (fun c => ?_)) <;> (walk_at "all"))
  | ((with_reducible refine go_inT (.of upd_same) rfl rfl ?_); (walk_at "all"))
  | ((with_reducible refine go_ninT (.of upd_same) rfl rfl ?_); (walk_at "all"))
  | ((with_reducible show NewO _ _ _); (intro p hp); (walk_at "all"))
  | skip))

local macro_rules | `(tactic| walk_at "**") => `(tactic| ((try dsimp only); (repeat first
  | walk_at "1"
  | ((with_reducible show NewO _ _ _); (intro p hp))
  | (with_reducible refine go_inT (.of upd_same) rfl rfl ?_)
  | (with_reducible refine go_ninT (.of upd_same) rfl rfl ?_)
  | (with_reducible refine go_inL (.of upd_same) rfl rfl ?_)
  | (with_reducible refine go_ninL (.of upd_same) rfl rfl ?_))))
/-! by cells -/
local macro_rules | `(tactic| walk_at "mem") => `(tactic| first
  | with_reducible exact List.mem_cons_self
  | ((with_reducible refine' List.mem_append_left _ ?h); (case h => walk_at "mem"))
  | ((with_reducible refine' List.mem_cons_of_mem _ ?h); (case h => walk_at "mem"))
  | ((with_reducible refine' List.mem_append_right _ ?h); (case h => walk_at "mem"))
  | fail)
local macro_rules | `(tactic| walk_at "perm") => `(tactic| first
  | with_reducible exact pc_here
  | ((with_reducible refine' pc_inl ?h); (case h => walk_at "perm"))
  | ((with_reducible refine' pc_cons ?h); (case h => walk_at "perm"))
  | ((with_reducible refine' pc_app ?h); (case h => walk_at "perm"))
  | fail)
local macro_rules | `(tactic| walk_at "pull") => `(tactic| first
  | with_reducible exact pm_here
  | with_reducible exact pm_all
  | with_reducible exact pl_nil
  | ((with_reducible refine' pm_app ?h); (case h => walk_at "pull1"))
  | ((with_reducible refine' pm_cons ?h); (case h => walk_at "pull1"))
  | ((with_reducible refine' pl_app ?h1 ?h2); (case h1 => walk_at "pull"); (case h2 => walk_at "pull"))
  | ((with_reducible refine' pl_cons ?h1 ?h2); (case h1 => walk_at "perm"); (case h2 => walk_at "pull"))
  | fail)
local macro_rules | `(tactic| walk_at "pull1") => `(tactic| first
  | with_reducible exact pm_here
  | with_reducible exact pm_all
  | ((with_reducible refine' pm_app ?h); (case h => walk_at "pull1"))
  | ((with_reducible refine' pm_cons ?h); (case h => walk_at "pull1"))
  | fail)
local macro_rules | `(tactic| walk_at "lay") => `(tactic| first
  | assumption
  | exact Ext.lay (by assumption)
  | exact Lay.pull (Ext.lay (by assumption)) (by walk_at "pull"))
local macro_rules | `(tactic| walk_at "tup") => `(tactic| first
  | assumption
  | exact TupKeep.at (by assumption) (by walk_at "tup")
  | exact Ext.tup (by assumption) (by walk_at "tup")
  | exact ge_same (by assumption) (by walk_at "tup")
  | fail)
local macro_rules | `(tactic| walk_at "objx") => `(tactic| first
  | exact Lay.get (Ext.lay (by assumption)) (by walk_at "mem")
  | exact Lay.get (by assumption) (by walk_at "mem")
  | (walk_at "tup"))
local macro_rules | `(tactic| walk_at "permd") => `(tactic| first
  | exact pc_here
  | ((refine' pc_inl ?h); (case h => walk_at "permd"))
  | ((refine' pc_cons ?h); (case h => walk_at "permd"))
  | ((refine' pc_app ?h); (case h => walk_at "permd"))
  | fail)
local macro_rules | `(tactic| walk_at "pulld") => `(tactic| first
  | with_reducible exact pm_here
  | with_reducible exact pm_all
  | with_reducible exact pl_nil
  | ((with_reducible refine' pm_app ?h); (case h => walk_at "pull1"))
  | ((with_reducible refine' pm_cons ?h); (case h => walk_at "pull1"))
  | ((refine' pl_app ?h1 ?h2); (case h1 => walk_at "pulld"); (case h2 => walk_at "pulld"))
  | ((refine' pl_cons ?h1 ?h2); (case h1 => walk_at "permd"); (case h2 => walk_at "pulld"))
  | fail)
local macro_rules | `(tactic| walk_at "ext") => `(tactic| first
  | assumption
  | exact Ext.drop (by assumption) (by walk_at "pull")
  | exact Ext.drop (by assumption) (by walk_at "pulld"))
local macro_rules | `(tactic| walk_at "samex") => `(tactic| first
  | assumption
  | exact Ext.toSame' (by assumption) (by walk_at "pull"))
local macro_rules | `(tactic| walk_at "small") => `(tactic| first | exact Nat.lt_of_succ_le (Nat.le_of_ble_eq_true rfl) | omega | (simp only [List.length_append, List.length_cons, List.length_nil, List.length_map]; omega))
local macro_rules | `(tactic| walk_at "x1") => `(tactic| first
  | ((with_reducible refine' go_fldW ?a ?b ?c ?d ?_); (case a => walk_at "objx"); (case b => assumption); (case c => assumption); (case d => exact rfl))
  | ((with_reducible refine' go_xT ?a ?b ?_); (case a => exact .of (by walk_at "tup")); (case b => exact rfl))
  | ((with_reducible refine' go_xL ?a ?b ?_); (case a => exact .of (by walk_at "objx")); (case b => exact rfl))
  | ((with_reducible refine' go_gtup ?a ?b ?_); (case a => exact .of (by walk_at "tup")); (case b => exact rfl))
  | ((with_reducible refine' go_slTD 0 ?a ?b ?c ?_); (case a => exact .of (by walk_at "tup")); (case b => rfl); (case c => (repeat (first | exact DropR.zero | apply DropR.succ))))
  | ((with_reducible refine' go_slTD 2 ?a ?b ?c ?_); (case a => exact .of (by walk_at "tup")); (case b => rfl); (case c => (repeat (first | exact DropR.zero | apply DropR.succ))))
  | ((with_reducible refine' go_slTD 3 ?a ?b ?c ?_); (case a => exact .of (by walk_at "tup")); (case b => rfl); (case c => (repeat (first | exact DropR.zero | apply DropR.succ))))
  | ((with_reducible refine' go_slTD 5 ?a ?b ?c ?_); (case a => exact .of (by walk_at "tup")); (case b => rfl); (case c => (repeat (first | exact DropR.zero | apply DropR.succ))))
  | ((with_reducible refine' go_slTT 3 ?a ?b ?c ?d ?_); (case a => exact .of (by walk_at "tup")); (case b => rfl); (case c => (repeat (first | exact TakeR.zero | apply TakeR.succ))); (case d => rfl))
  | ((with_reducible refine' go_slTT 4 ?a ?b ?c ?d ?_); (case a => exact .of (by walk_at "tup")); (case b => rfl); (case c => (repeat (first | exact TakeR.zero | apply TakeR.succ))); (case d => rfl))
  | ((with_reducible refine' go_slTM 0 2 ?a ?b ?c ?d ?e ?_); (case a => exact .of (by walk_at "tup")); (case b => rfl); (case c => rfl); (case d => (repeat (first | exact DropR.zero | apply DropR.succ))); (case e => (repeat (first | exact TakeR.zero | apply TakeR.succ))))
  | ((with_reducible refine' go_slTM 0 4 ?a ?b ?c ?d ?e ?_); (case a => exact .of (by walk_at "tup")); (case b => rfl); (case c => rfl); (case d => (repeat (first | exact DropR.zero | apply DropR.succ))); (case e => (repeat (first | exact TakeR.zero | apply TakeR.succ))))
  | ((with_reducible refine' go_sfldX ?a ?p ?b ?c ?d ?e ?_); (case a => assumption); (case p => walk_at "perm"); (case b => assumption); (case c => assumption); (case d => exact rfl); (case e => walk_at "put"); intro H' x' tk')
  | ((with_reducible refine' go_gfldX ?a ?p ?b ?c ?d ?e ?_); (case a => assumption); (case p => walk_at "perm"); (case b => assumption); (case c => assumption); (case d => exact rfl); (case e => walk_at "put"); intro H' x' tk')
  | ((with_reducible refine' go_faugW ?a ?b ?c ?d ?_); (case a => walk_at "objx"); (case b => assumption); (case c => assumption); (case d => exact rfl))
  | ((with_reducible refine' go_astX ?a ?p ?b ?e ?_); (case a => assumption); (case p => walk_at "perm"); (case b => exact rfl); (case e => walk_at "put"); intro H' x' tk')
  | ((with_reducible refine' go_methW ?a ?b ?_); (case a => walk_at "objx"); (case b => exact rfl))
  | ((with_reducible refine' go_methSW ?a ?b ?_); (case a => walk_at "objx"); (case b => exact rfl))
  | ((with_reducible refine' go_inS ?a ?_); (case a => walk_at "objx"))
  | ((with_reducible refine' go_inC ?a ?_); (case a => walk_at "objx"))
  | ((with_reducible refine' go_inT ?a ?b ?c ?_); (case a => exact .of (by walk_at "tup")); (case b => exact rfl); (case c => exact rfl))
  | ((with_reducible refine' go_ninT ?a ?b ?c ?_); (case a => exact .of (by walk_at "tup")); (case b => exact rfl); (case c => exact rfl))
  | ((with_reducible refine' go_lenL ?a ?_); (case a => exact .of (by walk_at "objx")))
  | ((with_reducible refine' go_lenT ?a ?_); (case a => exact .of (by walk_at "tup")))
  | ((with_reducible refine' go_dg2W ?a ?_); (case a => exact .inl ⟨_, .inl (by walk_at "objx")⟩))
  | ((with_reducible refine' go_getC ?a ?_); (case a => walk_at "objx"))
  | ((with_reducible refine' go_bmW ?a ?_); (case a => first | exact tyV_s | exact tyV_l (.of (by walk_at "objx")) | exact tyV_d (by walk_at "objx")))
  | ((with_reducible refine' go_bmW0 ?a ?_); (case a => first | exact tyV_s | exact tyV_l (.of (by walk_at "objx")) | exact tyV_d (by walk_at "objx")))
  | ((with_reducible refine' go_appendX ?a ?p ?b ?_); (case a => assumption); (case p => walk_at "perm"); (case b => walk_at "small"); intro H' x' tk')
  | ((with_reducible refine' go_newTp ?a ?_); (case a => assumption); intro p' H' n' x' tk' e')
  | ((with_reducible refine' go_newM ?a ?b ?_); (case a => assumption); (case b => exact rfl); intro p' H' n' x' tk')
  | fail)
local macro_rules | `(tactic| walk_at "x*") => `(tactic| ((try dsimp only); (repeat first | walk_at "x1" | walk_at "1")))

/-! by what stands still and what is alive (each ends with fail: without it a case that fails is admitted) -/
local macro_rules | `(tactic| walk_at "fz") => `(tactic| first | assumption | ((refine' ge_same ?a ?b); (case a => assumption); (case b => walk_at "fz")) | fail)
local macro_rules | `(tactic| walk_at "get") => `(tactic| first | ((refine' Sta.get ?a ?b); (case a => assumption); (case b => walk_at "mem")) | fail)
local macro_rules | `(tactic| walk_at "sof") => `(tactic| first | ((refine' Sta.of ?a ?b); (case a => assumption); (case b => walk_at "fz")) | fail)
local macro_rules | `(tactic| walk_at "obj") => `(tactic| first | walk_at "get" | walk_at "sof" | fail)
local macro_rules | `(tactic| walk_at "sqT") => `(tactic| first | ((refine' SqT.of ?a); (case a => walk_at "sof")) | fail)
local macro_rules | `(tactic| walk_at "sqL") => `(tactic| first | ((refine' SqL.of ?a); (case a => (first | walk_at "get" | walk_at "sof" | fail))) | fail)
local macro_rules | `(tactic| walk_at "sta") => `(tactic| first | assumption | exact Sta.same (by assumption) (by assumption) | exact Sta.pull (by assumption) (by walk_at "pull") | fail)
local macro_rules | `(tactic| walk_at "slow") => `(tactic| first | ((with_reducible refine' go_newF (o := .tup _) ?a ?_); (case a => assumption); intro p F' H' s e st') | fail)
local macro_rules | `(tactic| walk_at "slow") => `(tactic| first | ((with_reducible refine' go_appendS ?a ?p ?b ?_); (case a => assumption); (case p => walk_at "perm"); (case b => walk_at "small"); intro H' st') | fail)
local macro_rules | `(tactic| walk_at "slow") => `(tactic| first | ((with_reducible refine' go_astS ?a ?p ?b ?e ?_); (case a => assumption); (case p => walk_at "perm"); (case b => exact rfl); (case e => walk_at "put"); intro H' st') | fail)
local macro_rules | `(tactic| walk_at "slow") => `(tactic| first | ((with_reducible refine' go_gfldS ?a ?p ?b ?c ?d ?e ?_); (case a => assumption); (case p => walk_at "perm"); (case b => assumption); (case c => assumption); (case d => exact rfl); (case e => walk_at "put"); intro H' st') | fail)
local macro_rules | `(tactic| walk_at "slow") => `(tactic| first | ((with_reducible refine' go_sfldS ?a ?p ?b ?c ?d ?e ?_); (case a => assumption); (case p => walk_at "perm"); (case b => assumption); (case c => assumption); (case d => exact rfl); (case e => walk_at "put"); intro H' st') | fail)

local macro_rules | `(tactic| walk_at "1") => `(tactic| first | ((with_reducible show Ends.nx _ _ _); (first | ((with_reducible refine go_nx ?_); (fail_if_success (with_reducible show Ends.nx _ _ _))) | ((with_reducible refine go_nx ?_); (with_reducible refine go_nx ?_); (fail_if_success (with_reducible show Ends.nx _ _ _))) | ((with_reducible refine go_nx ?_); (with_reducible refine go_nx ?_); (with_reducible refine go_nx ?_); (fail_if_success (with_reducible show Ends.nx _ _ _))) | fail)) | fail)
local macro_rules | `(tactic| walk_at "1") => `(tactic| first | ((with_reducible show Ends.rt _ _ _); (first | ((with_reducible refine go_rt ?_); (fail_if_success (with_reducible show Ends.rt _ _ _))) | ((with_reducible refine go_rt ?_); (with_reducible refine go_rt ?_); (fail_if_success (with_reducible show Ends.rt _ _ _))) | ((with_reducible refine go_rt ?_); (with_reducible refine go_rt ?_); (with_reducible refine go_rt ?_); (fail_if_success (with_reducible show Ends.rt _ _ _))) | fail)) | fail)
local macro_rules | `(tactic| walk_at "1") => `(tactic| first | ((with_reducible show Ends.bk _ _ _); (first | ((with_reducible refine go_bk ?_); (fail_if_success (with_reducible show Ends.bk _ _ _))) | ((with_reducible refine go_bk ?_); (with_reducible refine go_bk ?_); (fail_if_success (with_reducible show Ends.bk _ _ _))) | ((with_reducible refine go_bk ?_); (with_reducible refine go_bk ?_); (with_reducible refine go_bk ?_); (fail_if_success (with_reducible show Ends.bk _ _ _))) | fail)) | fail)
local macro_rules | `(tactic| walk_at "1") => `(tactic| first | ((with_reducible show Ends.ct _ _ _); (first | ((with_reducible refine go_ctx ?_); (fail_if_success (with_reducible show Ends.ct _ _ _))) | ((with_reducible refine go_ctx ?_); (with_reducible refine go_ctx ?_); (fail_if_success (with_reducible show Ends.ct _ _ _))) | ((with_reducible refine go_ctx ?_); (with_reducible refine go_ctx ?_); (with_reducible refine go_ctx ?_); (fail_if_success (with_reducible show Ends.ct _ _ _))) | fail)) | fail)
local macro_rules | `(tactic| walk_at "1") => `(tactic| first | ((with_reducible refine More.go ?_); (walk_at "slow")) | fail)
local macro_rules | `(tactic| walk_at "1") => `(tactic| first | with_reducible refine Go.go ?_ | fail)

def top (i : Nat) : Stmt := PySem.Challenge.pw_inningsbook_k74_whole_games_any_way_abou.main.body.getD i (.Pass ⟨0, 0, 0, 0⟩)
structure Txt (K : PySem.W.Frag) (mg : Str → Option Value) : Prop where
  b_abs : mg "abs" = none
  b_all : mg "all" = none
  b_enumerate : mg "enumerate" = none
  b_int : mg "int" = none
  b_len : mg "len" = none
  b_max : mg "max" = none
  b_min : mg "min" = none
  b_range : mg "range" = none
  b_reversed : mg "reversed" = none
  b_sorted : mg "sorted" = none
  b_sum : mg "sum" = none
  b_tuple : mg "tuple" = none
  cls_Standing : Cls K (He.ga K "Standing")
  noat_Standing_faced : NoAttr K (He.ga K "Standing") "faced"
  noat_Standing_points : NoAttr K (He.ga K "Standing") "points"
  noat_Standing_runs : NoAttr K (He.ga K "Standing") "runs"
  noat_Standing_tallies : NoAttr K (He.ga K "Standing") "tallies"
theorem cutV_map {ns : List Int} {lo hi : Option Int} : ∃ ms : List Int, cutV (ns.map V.int) lo hi = ms.map V.int ∧ ms.length ≤ ns.length := by
  refine ⟨(ns.drop (HT.sIx (ns.map V.int).length 0 lo)).take (HT.sIx (ns.map V.int).length (ns.map V.int).length hi - HT.sIx (ns.map V.int).length 0 lo), ?_, ?_⟩
  · unfold cutV
    rw [List.map_take, List.map_drop]
  · rw [List.length_take, List.length_drop]
    omega


theorem cut_takeA {ms : List Int} {m : Nat} : cutV (ms.map V.int) none (some (m : Int)) = (ms.take m).map V.int := by
  by_cases h : m ≤ (ms.map V.int).length
  · rw [cut_take h, List.map_take]
  · unfold cutV
    rw [HT.sIx_none, HT.sIx_nat, List.drop_zero, Nat.sub_zero, List.map_take, Nat.min_eq_right (by omega), List.take_length, List.take_of_length_le (by omega)]
/-- a loop whose body is shown for any ends that let what is wanted (keeps the goals small) -/
theorem accLO {K : PySem.W.Frag} {σ : St} {H : Hp} {D : Ends} {α : Type} {a : Addr} (xs : List α) (emb : α → V) {g : TG} {tb : TS} (I : List α → St → Hp → Prop) (h0 : I [] σ H) (hG : ∀ pre σ H, I pre σ H → SqL K H a (xs.map emb))
    (hs : ∀ pre x σ H, x ∈ xs → (∃ post, xs = pre ++ x :: post) → I pre σ H → ∀ D' : Ends, (∀ σ H, I (pre ++ [x]) σ H → D'.nx σ H) → (∀ σ H, I (pre ++ [x]) σ H → D'.ct σ H) → (∀ v H, D.rt v H → D'.rt v H) → g (emb x) σ H fun σ2 H2 => tb D' σ2 H2) (hd : ∀ σ H, I xs σ H → D.nx σ H) : ForW (Itl K a) g tb D σ H :=
  ForW.accL xs emb I h0 hG (fun pre x σ H m p i => hs pre x σ H m p i _ (fun _ _ h => h) (fun _ _ h => h) (fun _ _ h => h)) hd
theorem go_powI {f : Int → Int → V} {a b : Int} {H : Hp} {Q : VK} (c : (0 ≤ b ∧ b ≤ 1000) ∧ (-1000 ≤ a ∧ a ≤ 1000)) (h : Q (f a b) H) : rI CPow f (.int a) (.int b) H Q := ⟨a, b, rfl, rfl, ⟨c.1.1, by omega, by omega⟩, h⟩

/-! ### _law_at -/
abbrev s__law_at : Stmt := top 9
abbrev N__law_at : List Str := ["_law_script", "_law_k"]
theorem sc__law_at : FnScope N__law_at ["_law_script", "_law_k"] (defScope s__law_at) := ⟨rfl, rfl, rfl, by decide +kernel, rfl, by decide +kernel, by decide +kernel⟩
def pr__law_at (K : PySem.W.Frag) : V → V → Hp → VK → XK → Prop := fun a0 a1 H Q E => ∃ (a : Addr) (ns : List Int) (k : Int), a0 = .ref a ∧ a1 = .int k ∧ SqL K H a (ns.map V.int) ∧ ns.length ≤ 63 ∧ 0 ≤ k ∧ ∀ z : Int, Q (.int z) H
abbrev sp__law_at (K : PySem.W.Frag) : Sp := Sp2 (pr__law_at K)
theorem ok__law_at {P : Program} {w : World} {K : PySem.W.Frag} {mg : Str → Option Value} {base : Heap} {f : Addr} {fd : FuncData} (F : FunD K "_law_at" "_law_at" (defArgs s__law_at) (defBody s__law_at) (defScope s__law_at) [] [] f fd) (T : Txt K mg)  : FnOk P w K mg base CX0 1 f fd ["_law_script", "_law_k"] (sp__law_at K) := by
  refine F.ok sc__law_at (fun vs H Q E h => len2 h) (fun cdv A outer s H vs Q E hr h => ?_)
  obtain ⟨a0, a1, rfl, h⟩ := h
  have hu := hu_of hr
  refine ⟨_, PSs.nox ((pss_cons (ps_if (pt_cmpR op_lt (pv 1) (pe_callB call_lenX (by rfl) T.b_len L2.A.boot_len (pa_cons (pv 0) pa_nil)) (nomark _)) (pss_one (ps_ret (pe_ix (ix_X hu) (pv 0) (pv 1) (fun _ _ => rfl)))) pss_nil)
      (pss_one (ps_ret pe_int)))), ?_⟩
  refine go_start (σ := [some a0, some a1]) rfl ?_
  try dsimp only [cxOf, Cx.nox, Cx.wish, Cx.tr, Cx.suite]
  obtain ⟨a, ns, k, rfl, rfl, hS, hn, k0, hq⟩ := h
  walk_at "*"
  rw [List.length_map]
  refine if2 (fun c => ?_) (fun c => ?_)
  · have c := of_decide_eq_true c
    obtain ⟨j, rfl⟩ : ∃ j : Nat, k = (j : Int) := ⟨k.toNat, by omega⟩
    have hj : j < ns.length := by omega
    walk_at "*"
    refine go_xL (v := .int ns[j]) hS (atI_nat (by rw [List.getElem?_map, List.getElem?_eq_getElem hj]; rfl)) ?_
    exact hq _
  · walk_at "*"
    exact hq _
/-! ### _law_mixed -/
abbrev s__law_mixed : Stmt := top 10
abbrev N__law_mixed : List Str := ["_law_cell", "_law_k", "_law_once"]
theorem sc__law_mixed : FnScope N__law_mixed ["_law_cell", "_law_k"] (defScope s__law_mixed) := ⟨rfl, rfl, rfl, by decide +kernel, rfl, by decide +kernel, by decide +kernel⟩
def pr__law_mixed (K : PySem.W.Frag) : V → V → Hp → VK → XK → Prop := fun a0 a1 H Q E => ∃ c k : Int, a0 = .int c ∧ a1 = .int k ∧ 0 ≤ k ∧ k ≤ 10000 ∧ ∀ r : Int, 0 ≤ r → r < 715827877 → Q (.int r) H
abbrev sp__law_mixed (K : PySem.W.Frag) : Sp := Sp2 (pr__law_mixed K)
theorem ok__law_mixed {P : Program} {w : World} {K : PySem.W.Frag} {mg : Str → Option Value} {base : Heap} {f : Addr} {fd : FuncData} (F : FunD K "_law_mixed" "_law_mixed" (defArgs s__law_mixed) (defBody s__law_mixed) (defScope s__law_mixed) [] [] f fd) (T : Txt K mg)  : FnOk P w K mg base CX0 1 f fd ["_law_cell", "_law_k"] (sp__law_mixed K) := by
  refine F.ok sc__law_mixed (fun vs H Q E h => len2 h) (fun cdv A outer s H vs Q E hr h => ?_)
  obtain ⟨a0, a1, rfl, h⟩ := h
  have hu := hu_of hr
  refine ⟨_, PSs.nox ((pss_cons (ps_set (i := 2) sc__law_mixed.nd rfl (by first | exact Or.inl rfl | exact Or.inr rfl) (pe_op op_mod (pe_op op_mulX (pe_op op_addX (pe_op op_addX (pe_op op_mod (pv 0) pe_int) (pe_op op_mulX pe_int (pv 1))) pe_int) pe_int) pe_int))
      (pss_one (ps_ret (pe_op op_fdiv (pe_op op_mod (pe_op op_mulX (pv 2) (pe_op op_addX (pe_op op_addX (pe_op op_mod (pv 2) pe_int) (pe_op op_mulX (pv 1) (pv 1))) pe_int)) pe_int) pe_int))))), ?_⟩
  refine go_start (σ := [some a0, some a1, none]) rfl ?_
  try dsimp only [cxOf, Cx.nox, Cx.wish, Cx.tr, Cx.suite]
  obtain ⟨c, k, rfl, rfl, h1, h2, hq⟩ := h
  walk_at "*"
  exact hq _ (by omega) (by omega)

/-- small letters -/
def LowL (cs : List Nat) : Prop := ∀ c ∈ cs, 97 ≤ c ∧ c ≤ 122
theorem low_ok {cs : List Nat} (h : LowL cs) : okV (.str ⟨cs.toArray⟩) = true := by
  show (Array.all _ _ : Bool) = true
  rw [Array.all_eq_true]
  intro i hi
  have m := h cs[i] (List.getElem_mem _)
  exact decide_eq_true (show cs[i] < 0x110000 by omega)
theorem abc_low : ∀ c ∈ ("abcdefghijklmnopqrstuvwxyz" : Str).cps.toList, 97 ≤ c ∧ c ≤ 122 := by decide +kernel


open TL (tl)
structure NmOk (z : Str) : Prop where
  low : LowL (tl z)
  ne : tl z ≠ []
  len : z.length ≤ 8
  two : 2 ≤ z.length
theorem NmOk.nes {z : Str} (h : NmOk z) : z ≠ "" := fun e => h.ne (by rw [e]; decide +kernel)
theorem NmOk.ok {z : Str} (h : NmOk z) : okV (.str z) = true := by
  have := low_ok h.low
  rwa [show (⟨(tl z).toArray⟩ : Str) = z by cases z; simp [tl]] at this
theorem abc_at : ∀ i : Nat, i < 26 → ("abcdefghijklmnopqrstuvwxyz" : Str).cps.toList[i]? = some (97 + i) := by decide +kernel
theorem abc_atI {r : Int} (h0 : 0 ≤ r) (h1 : r < 26) : L2.atI ("abcdefghijklmnopqrstuvwxyz" : Str).cps.toList r = some (97 + r.toNat) := by
  obtain ⟨j, rfl⟩ : ∃ j : Nat, r = (j : Int) := ⟨r.toNat, by omega⟩
  exact atI_nat (abc_at j (by omega))
theorem zq_at {k : Nat} (h : k < 52) : L2.atI ("zq" : Str).cps.toList ((k : Int) / 26) = some (if k < 26 then 122 else 113) := by
  by_cases c : k < 26
  · rw [if_pos c, show (k : Int) / 26 = 0 by omega]; decide +kernel
  · rw [if_neg c, show (k : Int) / 26 = 1 by omega]; decide +kernel
theorem cutS_sub {z : Str} {lo hi : Option Int} : ∀ c ∈ tl (cutS z lo hi), c ∈ tl z := fun c m => by
  have m : c ∈ (z.cps.toList.drop (HT.sIx z.length 0 lo)).take (HT.sIx z.length z.length hi - HT.sIx z.length 0 lo) := by simpa [tl, cutS] using m
  exact List.mem_of_mem_drop (List.mem_of_mem_take m)
theorem two_mul {a b : Nat} : tl (Txt.mul (⟨#[a]⟩ ++ ⟨#[b]⟩ : Str) 3) = [a, b, a, b, a, b] := by
  have e : (⟨#[a]⟩ ++ ⟨#[b]⟩ : Str) = ⟨#[a, b]⟩ := rfl
  rw [e]; rfl
theorem two_ok {a b : Nat} : MulOk (⟨#[a]⟩ ++ ⟨#[b]⟩ : Str) 3 := by
  have e : (⟨#[a]⟩ ++ ⟨#[b]⟩ : Str) = ⟨#[a, b]⟩ := rfl
  rw [e]
  have l : (⟨#[a, b]⟩ : Str).length = 2 := rfl
  refine ⟨by decide, fun _ _ => ?_, fun _ _ => ?_⟩
  · rw [l]; decide
  · rw [l]; decide +kernel
theorem cutS_low {z : Str} {lo hi : Option Int} (h : LowL (tl z)) : LowL (tl (cutS z lo hi)) ∧ (cutS z lo hi).length ≤ z.length := by
  exact ⟨fun c m => h c (cutS_sub c m), cutS_length _ _ _⟩
theorem cutS_len2 {z : Str} {lo hi : Int} (h0 : 0 ≤ lo) (h1 : lo ≤ hi) (h2 : hi ≤ z.length) : (cutS z none (some lo)).length + (cutS z (some lo) (some hi)).length ≤ hi.toNat := by
  obtain ⟨a, rfl⟩ : ∃ a : Nat, lo = (a : Int) := ⟨lo.toNat, by omega⟩
  obtain ⟨b, rfl⟩ : ∃ b : Nat, hi = (b : Int) := ⟨hi.toNat, by omega⟩
  rw [TL.len_tl, TL.len_tl]
  have e1 : tl (cutS z none (some (a : Int))) = (z.cps.toList.drop (HT.sIx z.length 0 none)).take (HT.sIx z.length z.length (some (a : Int)) - HT.sIx z.length 0 none) := by simp [tl, cutS]
  have e2 : tl (cutS z (some (a : Int)) (some (b : Int))) = (z.cps.toList.drop (HT.sIx z.length 0 (some (a : Int)))).take (HT.sIx z.length z.length (some (b : Int)) - HT.sIx z.length 0 (some (a : Int))) := by simp [tl, cutS]
  rw [e1, e2, HT.sIx_none, HT.sIx_nat, HT.sIx_nat, HT.sIx_nat]
  simp only [List.length_take, List.length_drop]
  omega
def nameF (pre post : Str) (sh : Nat) (k : Nat) : Str := pre ++ ⟨#[97 + (sh + k) % 26]⟩ ++ post ++ ⟨#[if k < 26 then 122 else 113]⟩
theorem nameF_tl {pre post : Str} {sh k : Nat} : tl (nameF pre post sh k) = tl pre ++ [97 + (sh + k) % 26] ++ tl post ++ [if k < 26 then 122 else 113] := by
  unfold nameF
  rw [TL.tl_append, TL.tl_append, TL.tl_append]
theorem nameF_inj {pre post : Str} {sh j k : Nat} (hj : j < 52) (hk : k < 52) (e : nameF pre post sh j = nameF pre post sh k) : j = k := by
  have e := congrArg tl e
  rw [nameF_tl, nameF_tl] at e
  obtain ⟨e1, e2⟩ := List.append_inj' e rfl
  obtain ⟨e3, -⟩ := List.append_inj' e1 rfl
  obtain ⟨-, e4⟩ := List.append_inj' e3 rfl
  injection e4 with e4
  injection e2 with e2
  split at e2 <;> split at e2 <;> omega
theorem nameF_ok {pre post : Str} {sh k : Nat} (h1 : LowL (tl pre)) (h2 : LowL (tl post)) (l : pre.length + post.length ≤ 6) : NmOk (nameF pre post sh k) := by
  refine ⟨?_, by rw [nameF_tl]; simp, ?_, by rw [TL.len_tl, nameF_tl]; simp only [List.length_append, List.length_singleton]; omega⟩
  · rw [nameF_tl]
    intro c m
    simp only [List.mem_append, List.mem_singleton] at m
    rcases m with ((m | m) | m) | m
    · exact h1 c m
    · omega
    · exact h2 c m
    · split at m <;> omega
  · rw [TL.len_tl, nameF_tl]
    simp only [List.length_append, List.length_singleton]
    have := TL.len_tl pre
    have := TL.len_tl post
    omega


theorem nameF_z {pre post : Str} {sh k : Nat} (h : k < 26) : (tl (nameF pre post sh k)).getLast? = some 122 := by
  rw [nameF_tl, if_pos h, List.getLast?_concat]

/-! ### _law_names -/
abbrev s__law_names : Stmt := top 11
abbrev N__law_names : List Str := ["_law_cell", "_law_many", "_law_letters", "_law_number", "_law_size", "_law_stem", "_law_at_here", "_law_shift", "_law_names_here", "_law_k", "_law_letter", "_law_word"]
theorem sc__law_names : FnScope N__law_names ["_law_cell", "_law_many"] (defScope s__law_names) := ⟨rfl, rfl, rfl, by decide +kernel, rfl, by decide +kernel, by decide +kernel⟩
def pr__law_names (K : PySem.W.Frag) : V → V → Hp → VK → XK → Prop := fun a0 a1 H Q E => ∃ (F : Hp) (R : Cells) (c : Int) (m : Nat), a0 = .int c ∧ a1 = .int (m : Nat) ∧ m ≤ 52 ∧ Sta F R H ∧ ∀ (f : Nat → Str) (l : Addr) (F' H' : Hp), Same F F' → F' l = some (.lst ((List.range m).map fun k => .str (f k))) → (∀ k, NmOk (f k)) → (∀ j k, j < 52 → k < 52 → f j = f k → j = k) → (∀ k, k < 26 → (tl (f k)).getLast? = some 122) → Sta F' R H' → Q (.ref l) H' 
abbrev sp__law_names (K : PySem.W.Frag) : Sp := Sp2 (pr__law_names K)
theorem ok__law_names {P : Program} {w : World} {K : PySem.W.Frag} {mg : Str → Option Value} {base : Heap} {f : Addr} {fd : FuncData} (F : FunD K "_law_names" "_law_names" (defArgs s__law_names) (defBody s__law_names) (defScope s__law_names) [] [] f fd) (T : Txt K mg) (d__law_mixed : Dn P w K mg base CX0 1 "_law_mixed" ["_law_cell", "_law_k"] [] (sp__law_mixed K)) : FnOk P w K mg base CX0 2 f fd ["_law_cell", "_law_many"] (sp__law_names K) := by
  refine F.ok sc__law_names (fun vs H Q E h => len2 h) (fun cdv A outer s H vs Q E hr h => ?_)
  obtain ⟨a0, a1, rfl, h⟩ := h
  have hu := hu_of hr
  refine ⟨_, PSs.nox ((pss_cons (ps_set (i := 2) sc__law_names.nd rfl (by first | exact Or.inl rfl | exact Or.inr rfl) pe_str)
      (pss_cons (ps_set (i := 3) sc__law_names.nd rfl (by first | exact Or.inl rfl | exact Or.inr rfl) (pe_d d__law_mixed (hr.mono (by decide)) rfl pass0 (pa_cons (pv 0) (pa_cons pe_int pa_nil))))
      (pss_cons (ps_set (i := 4) sc__law_names.nd rfl (by first | exact Or.inl rfl | exact Or.inr rfl) (pe_op op_mod (pv 3) pe_int))
      (pss_cons (ps_set (i := 5) sc__law_names.nd rfl (by first | exact Or.inl rfl | exact Or.inr rfl) (pe_op op_mulX (pe_op op_addX (pe_ix (ix_X hu) (pv 2) (pe_op op_mod (pe_op op_fdiv (pv 3) pe_int) pe_int) (fun _ _ => rfl)) (pe_ix (ix_X hu) (pv 2) (pe_op op_mod (pe_op op_fdiv (pv 3) pe_int) pe_int) (fun _ _ => rfl))) pe_int))
      (pss_cons (ps_set (i := 6) sc__law_names.nd rfl (by first | exact Or.inl rfl | exact Or.inr rfl) (pe_op op_mod (pe_op op_fdiv (pv 3) pe_int) (pe_op op_addX (pv 4) pe_int)))
      (pss_cons (ps_set (i := 7) sc__law_names.nd rfl (by first | exact Or.inl rfl | exact Or.inr rfl) (pe_op op_mod (pe_op op_fdiv (pv 3) pe_int) pe_int))
      (pss_cons (ps_set (i := 8) sc__law_names.nd rfl (by first | exact Or.inl rfl | exact Or.inr rfl) (pe_lst pa_nil))
      (pss_cons (ps_for PassesOwn.never rfl (pi_range1 rfl T.b_range (pa_cons (pv 1) pa_nil)) (pg_name (i := 9) sc__law_names.nd rfl (by first | exact Or.inl rfl | exact Or.inr rfl)) (pss_cons (ps_set (i := 10) sc__law_names.nd rfl (by first | exact Or.inl rfl | exact Or.inr rfl) (pe_ix (ix_X hu) (pv 2) (pe_op op_mod (pe_op op_addX (pv 7) (pv 9)) pe_int) (fun _ _ => rfl)))
      (pss_cons (ps_set (i := 11) sc__law_names.nd rfl (by first | exact Or.inl rfl | exact Or.inr rfl) (pe_op op_addX (pe_slice sl_X (pv 5) po_none (po_some (pv 6))) (pv 10)))
      (pss_one (ps_expr (pe_bm PySem.F.plainAttrs_list PySem.F.slot_list_append PySem.F.type_list_append mt_append (pv 8) (pa_cons (pe_op op_addX (pe_op op_addX (pv 11) (pe_slice sl_X (pv 5) (po_some (pv 6)) (po_some (pv 4)))) (pe_ix (ix_X hu) pe_str (pe_op op_fdiv (pv 9) pe_int) (fun _ _ => rfl))) pa_nil)))))))
      (pss_one (ps_ret (pv 8)))))))))))), ?_⟩
  refine go_start (σ := [some a0, some a1, none, none, none, none, none, none, none, none, none, none]) rfl ?_
  try dsimp only [cxOf, Cx.nox, Cx.wish, Cx.tr, Cx.suite]
  obtain ⟨F0, R0, c, m, rfl, rfl, hm, st0, hq⟩ := h
  walk_at "*"
  refine go_sp2 ⟨_, _, rfl, rfl, by omega, by omega, fun n n0 n1 => ?_⟩
  walk_at "*"
  refine go_xS (szl (Nat.le_of_ble_eq_true rfl)) (abc_atI (by omega) (by omega)) ?_
  walk_at "*"
  refine go_xS (szl (Nat.le_of_ble_eq_true rfl)) (abc_atI (by omega) (by omega)) ?_
  walk_at "*"
  refine go_addS (szl (by show 1 + 1 ≤ _; omega)) ?_
  walk_at "*"
  refine go_mulS two_ok ?_
  have hs : LowL (tl (Txt.mul ((⟨#[97 + (n / 7 % 26).toNat]⟩ : Str) ++ ⟨#[97 + (n / 182 % 26).toNat]⟩) 3)) ∧ (Txt.mul ((⟨#[97 + (n / 7 % 26).toNat]⟩ : Str) ++ ⟨#[97 + (n / 182 % 26).toNat]⟩) 3).length = 6 := by
    rw [TL.len_tl, two_mul]
    refine ⟨fun c m => ?_, rfl⟩
    simp only [List.mem_cons, List.not_mem_nil, or_false] at m
    omega
  generalize Txt.mul ((⟨#[97 + (n / 7 % 26).toNat]⟩ : Str) ++ ⟨#[97 + (n / 182 % 26).toNat]⟩) 3 = S at hs
  have s0 : 0 ≤ n % 7 ∧ n % 7 < 7 := by omega
  generalize n % 7 = sz at s0
  walk_at "*"
  have t0 : 0 ≤ n / 4732 % (sz + 1) ∧ n / 4732 % (sz + 1) ≤ sz := by
    have h1 := Int.emod_nonneg (n / 4732) (show sz + 1 ≠ 0 by omega)
    have h2 := Int.emod_lt_of_pos (n / 4732) (show 0 < sz + 1 by omega)
    omega
  generalize n / 4732 % (sz + 1) = at_ at t0
  have sh0 : ∃ sh : Nat, n / 40000 % 26 = (sh : Int) := ⟨(n / 40000 % 26).toNat, by omega⟩
  obtain ⟨sh, esh⟩ := sh0
  rw [esh]
  have l1 := cutS_low (lo := none) (hi := some at_) hs.1
  have l2 := cutS_low (lo := some at_) (hi := some sz) hs.1
  have l3 := cutS_len2 (z := S) (lo := at_) (hi := sz) t0.1 t0.2 (by rw [hs.2]; omega)
  have hS6 := hs.2
  walk_at "*"
  refine go_newLv st0 rfl fun l H1 st1 => ?_
  walk_at "*"
  rw [Int.toNat_natCast]
  refine ForW.range (fun i σ H' => ∃ v9 v10 v11, Sta F0 ((l, .lst ((List.range i).map fun k => .str (nameF (cutS S none (some at_)) (cutS S (some at_) (some sz)) sh k))) :: R0) H' ∧ σ = [some (.int c), some (.int (m : Nat)), some (.str "abcdefghijklmnopqrstuvwxyz"), some (.int n), some (.int sz), some (.str S), some (.int at_), some (.int (sh : Nat)), some (.ref l), v9, v10, v11])
    ⟨_, _, _, st1, rfl⟩ ?_ ?_
  · rintro i σ H2 hi ⟨v9, v10, v11, st2, rfl⟩
    clear st1
    rw [Int.zero_add]
    walk_at "*"
    refine go_xS (szl (Nat.le_of_ble_eq_true rfl)) (abc_atI (by omega) (by omega)) ?_
    rw [show (((sh : Int) + (i : Int)) % 26).toNat = (sh + i) % 26 by omega]
    walk_at "*"
    refine go_slS (szl (by omega)) ?_
    walk_at "*"
    refine go_addS (szl (by have : (⟨#[97 + (sh + i) % 26]⟩ : Str).length = 1 := rfl; omega)) ?_
    walk_at "*"
    refine go_slS (szl (by omega)) ?_
    walk_at "*"
    refine go_addS (szl (by
      have e1 : (⟨#[97 + (sh + i) % 26]⟩ : Str).length = 1 := rfl
      rw [TL.len_tl (cutS S none (some at_) ++ _), TL.tl_append, List.length_append, ← TL.len_tl, ← TL.len_tl]
      omega)) ?_
    walk_at "*"
    refine go_xS (szl (Nat.le_of_ble_eq_true rfl)) (zq_at (by omega)) ?_
    walk_at "*"
    refine go_addS (szl (by
      have e1 : (⟨#[97 + (sh + i) % 26]⟩ : Str).length = 1 := rfl
      have e2 : (⟨#[if i < 26 then 122 else 113]⟩ : Str).length = 1 := rfl
      rw [TL.len_tl (cutS S none (some at_) ++ _ ++ _), TL.tl_append, TL.tl_append, List.length_append, List.length_append, ← TL.len_tl, ← TL.len_tl, ← TL.len_tl]
      omega)) ?_
    walk_at "*"
    refine go_appendS st2 .rfl (by rw [List.length_map, List.length_range]; omega) fun H3 st3 => ?_
    walk_at "*"
    refine ⟨_, _, _, ?_, rfl⟩
    rw [List.range_succ, List.map_append]
    exact st3
  · rintro σ H2 ⟨v9, v10, v11, st2, rfl⟩
    walk_at "*"
    obtain ⟨F3, s3, e3, st3⟩ := st2.freeze .rfl
    exact hq _ l F3 _ s3 e3 (fun k => nameF_ok l1.1 l2.1 (by omega)) (fun j k hj hk => nameF_inj hj hk) (fun k hk => nameF_z hk) st3
theorem nd_ne {xs : List Str} (h : xs.Nodup) {i j : Nat} (hi : i < xs.length) (hj : j < xs.length) (ne : i ≠ j) : xs[i] ≠ xs[j] := by
  have p := List.pairwise_iff_getElem.mp h
  rcases Nat.lt_or_gt_of_ne ne with l | l
  · exact p i j hi hj l
  · exact fun z => p j i hj hi l z.symm


theorem menuIn {L : List Int} {r : Int} (h0 : 0 ≤ r) (h1 : r < L.length) (P : Int → Prop) (h : ∀ k ∈ L, P k) : ∃ k, L2.atI (L.map V.int) r = some (.int k) ∧ P k := by
  obtain ⟨k, e, m⟩ := menuI h0 h1
  exact ⟨k, e, h k m⟩
/-- a loop over an enumerated list, its body shown for any ends -/
theorem accEG {K : PySem.W.Frag} {σ : St} {H : Hp} {D : Ends} {α : Type} {a : Addr} (xs : List α) (emb : α → V) {g : TG} {tb : TS} (I : List α → St → Hp → Prop) (h0 : I [] σ H) (hG : ∀ pre σ H, I pre σ H → SqL K H a (xs.map emb))
    (hs : ∀ pre x post T σ H, xs = pre ++ x :: post → I pre σ H → H T = none → ∀ D' : Ends, (∀ σ H, I (pre ++ [x]) σ H → D'.nx σ H) → (∀ σ H, I (pre ++ [x]) σ H → D'.ct σ H) → (∀ v H, D.rt v H → D'.rt v H) → g (.ref T) σ (upd H T (.tup [.int (pre.length : Nat), emb x])) fun σ2 H2 => tb D' σ2 H2) (hd : ∀ σ H, I xs σ H → D.nx σ H) : ForW (Ite K a) g tb D σ H := by
  refine ForW.it (walk_enum (xs := xs.map emb)) (fun i => I (xs.take i)) h0 (fun i σ H _ h => hG _ σ H h) ?_ (fun σ H h => hd σ H (by rw [List.length_map, List.take_length] at h; exact h))
  rintro i x σ H4 H5 hi h ⟨T, y, u, rfl, hT, rfl, ey, eu⟩
  cases ey
  rw [List.length_map] at hi
  have eu : (xs.map emb)[i]? = some u := eu
  rw [List.getElem?_map, List.getElem?_eq_getElem hi] at eu
  cases eu
  have lp : (xs.take i).length = i := by rw [List.length_take]; omega
  have ep : xs = xs.take i ++ xs[i] :: xs.drop (i + 1) := by rw [← List.drop_eq_getElem_cons hi, List.take_append_drop]
  have et : xs.take (i + 1) = xs.take i ++ [xs[i]] := by rw [List.take_add_one, List.getElem?_eq_getElem hi]; rfl
  have := hs (xs.take i) xs[i] (xs.drop (i + 1)) T σ H4 ep h hT
  rw [lp, ← et] at this
  exact this _ (fun _ _ h => h) (fun _ _ h => h) (fun _ _ h => h)


/-- a game: runs and balls of the one, of the other -/
structure LG where
  (a : Str) (r n : Int) (b : Str) (s m : Int)
abbrev gL (g : LG) : List V := [.str g.a, .int g.r, .int g.n, .str g.b, .int g.s, .int g.m]
structure LGok (ns : List Str) (g : LG) : Prop where
  a : g.a ∈ ns
  b : g.b ∈ ns
  ne : g.a ≠ g.b
  r : 0 ≤ g.r ∧ g.r ≤ 9999
  s : 0 ≤ g.s ∧ g.s ≤ 9999
  n : 1 ≤ g.n ∧ g.n ≤ 9999
  m : 1 ≤ g.m ∧ g.m ≤ 9999
abbrev GS := List (Addr × LG)
abbrev lgL (gs : GS) : List V := gs.map fun x => V.ref x.1
abbrev gv (gs : GS) : List LG := gs.map Prod.snd
def GF (F : Hp) (gs : GS) : Prop := ∀ x ∈ gs, F x.1 = some (.tup (gL x.2))
theorem GF.same {F F' : Hp} {gs : GS} (h : GF F gs) (s : Same F F') : GF F' gs := fun x m => s _ _ (h x m)
theorem GF.snoc {F : Hp} {gs : GS} {q : Addr} {g : LG} (h : GF F gs) (hq : F q = some (.tup (gL g))) : GF F (gs ++ [(q, g)]) := fun x m => by
  rcases List.mem_append.mp m with m | m
  · exact h x m
  · rw [List.mem_singleton.mp m]; exact hq
theorem nd_at {ns : List Str} (nd : ns.Nodup) {i j : Nat} {x y : Str} (hi : ns[i]? = some x) (hj : ns[j]? = some y) (ne : i ≠ j) : x ≠ y := by
  obtain ⟨h1, rfl⟩ := List.getElem?_eq_some_iff.mp hi
  obtain ⟨h2, rfl⟩ := List.getElem?_eq_some_iff.mp hj
  exact nd_ne nd h1 h2 ne
theorem nm_at {ns : List Str} {r : Int} (h0 : 0 ≤ r) (h1 : r < ns.length) : ∃ z, L2.atI (ns.map V.str) r = some (.str z) ∧ ns[r.toNat]? = some z := by
  obtain ⟨k, rfl⟩ : ∃ k : Nat, r = (k : Int) := ⟨r.toNat, by omega⟩
  have hk : k < ns.length := by omega
  exact ⟨ns[k], atI_nat (by rw [List.getElem?_map, List.getElem?_eq_getElem hk]; rfl), by rw [Int.toNat_natCast, List.getElem?_eq_getElem hk]⟩
theorem two_ix {x n y : Int} (hn : 2 ≤ n) : ∃ i j : Nat, x % n = (i : Int) ∧ (x % n + 1 + y % (n - 1)) % n = (j : Int) ∧ (i : Int) < n ∧ (j : Int) < n ∧ i ≠ j := by
  have a0 := Int.emod_nonneg x (show n ≠ 0 by omega)
  have a1 := Int.emod_lt_of_pos x (show 0 < n by omega)
  have b0 := Int.emod_nonneg y (show n - 1 ≠ 0 by omega)
  have b1 := Int.emod_lt_of_pos y (show 0 < n - 1 by omega)
  generalize x % n = u at *
  generalize y % (n - 1) = w at *
  have c0 := Int.emod_nonneg (u + 1 + w) (show n ≠ 0 by omega)
  have c1 := Int.emod_lt_of_pos (u + 1 + w) (show 0 < n by omega)
  refine ⟨u.toNat, ((u + 1 + w) % n).toNat, by omega, by omega, by omega, by omega, fun e => ?_⟩
  by_cases h : u + 1 + w < n
  · rw [Int.emod_eq_of_lt (by omega) h] at e; omega
  · have e2 : (u + 1 + w) % n = u + 1 + w - n := by
      rw [← Int.emod_eq_of_lt (show 0 ≤ u + 1 + w - n by omega) (show u + 1 + w - n < n by omega)]
      exact (Int.sub_emod_right ..).symm
    rw [e2] at e; omega
def BRK : List Str := ["wins", "rate", "runs", "name"]
structure BrOk (bs : List Str) : Prop where
  ne : bs ≠ []
  nd : bs.Nodup
  sub : ∀ z ∈ bs, z ∈ BRK
  len : bs.length ≤ 4

/-! ### _law_small_game -/
abbrev s__law_small_game : Stmt := top 13
abbrev N__law_small_game : List Str := ["_law_names_here", "_law_n", "_law_one", "_law_two", "_law_runs", "_law_balls", "_law_against"]
theorem sc__law_small_game : FnScope N__law_small_game ["_law_names_here", "_law_n"] (defScope s__law_small_game) := ⟨rfl, rfl, rfl, by decide +kernel, rfl, by decide +kernel, by decide +kernel⟩
def pr__law_small_game (K : PySem.W.Frag) : V → V → Hp → VK → XK → Prop := fun a0 a1 H Q E => ∃ (F : Hp) (R : Cells) (l : Addr) (ns : List Str) (n : Int), a0 = .ref l ∧ a1 = .int n ∧ F l = some (.lst (ns.map V.str)) ∧ 2 ≤ ns.length ∧ ns.length ≤ 30 ∧ ns.Nodup ∧ Sta F R H ∧ ∀ (t : Addr) (g : LG) (F' H' : Hp), LGok ns g → Same F F' → F' t = some (.tup (gL g)) → Sta F' R H' → Q (.ref t) H' 
abbrev sp__law_small_game (K : PySem.W.Frag) : Sp := Sp2 (pr__law_small_game K)
theorem ok__law_small_game {P : Program} {w : World} {K : PySem.W.Frag} {mg : Str → Option Value} {base : Heap} {f : Addr} {fd : FuncData} (F : FunD K "_law_small_game" "_law_small_game" (defArgs s__law_small_game) (defBody s__law_small_game) (defScope s__law_small_game) [] [] f fd) (T : Txt K mg)  : FnOk P w K mg base CX0 1 f fd ["_law_names_here", "_law_n"] (sp__law_small_game K) := by
  refine F.ok sc__law_small_game (fun vs H Q E h => len2 h) (fun cdv A outer s H vs Q E hr h => ?_)
  obtain ⟨a0, a1, rfl, h⟩ := h
  have hu := hu_of hr
  refine ⟨_, PSs.nox ((pss_cons (ps_set (i := 2) sc__law_small_game.nd rfl (by first | exact Or.inl rfl | exact Or.inr rfl) (pe_op op_mod (pv 1) (pe_callB call_lenX (by rfl) T.b_len L2.A.boot_len (pa_cons (pv 0) pa_nil))))
      (pss_cons (ps_set (i := 3) sc__law_small_game.nd rfl (by first | exact Or.inl rfl | exact Or.inr rfl) (pe_op op_mod (pe_op op_addX (pe_op op_addX (pv 2) pe_int) (pe_op op_mod (pe_op op_fdiv (pv 1) pe_int) (pe_op op_sub (pe_callB call_lenX (by rfl) T.b_len L2.A.boot_len (pa_cons (pv 0) pa_nil)) pe_int))) (pe_callB call_lenX (by rfl) T.b_len L2.A.boot_len (pa_cons (pv 0) pa_nil))))
      (pss_cons (ps_set (i := 4) sc__law_small_game.nd rfl (by first | exact Or.inl rfl | exact Or.inr rfl) (pe_ix (ix_X hu) (pe_lst (pa_cons (pe_op op_mod (pe_op op_fdiv (pv 1) pe_int) pe_int) (pa_cons (pe_op op_mod (pe_op op_fdiv (pv 1) pe_int) pe_int) (pa_cons pe_int (pa_cons pe_int pa_nil))))) (pe_op op_mod (pe_op op_fdiv (pv 1) pe_int) pe_int) (fun _ _ => rfl)))
      (pss_cons (ps_set (i := 5) sc__law_small_game.nd rfl (by first | exact Or.inl rfl | exact Or.inr rfl) (pe_ix (ix_X hu) (pe_lst (pa_cons pe_int (pa_cons pe_int (pa_cons pe_int (pa_cons pe_int pa_nil))))) (pe_op op_mod (pe_op op_fdiv (pv 1) pe_int) pe_int) (fun _ _ => rfl)))
      (pss_cons (ps_set (i := 6) sc__law_small_game.nd rfl (by first | exact Or.inl rfl | exact Or.inr rfl) (pe_ix (ix_X hu) (pe_lst (pa_cons (pv 4) (pa_cons (pe_op op_mod (pe_op op_fdiv (pv 1) pe_int) pe_int) (pa_cons (pe_op op_mod (pe_op op_fdiv (pv 1) pe_int) pe_int) pa_nil)))) (pe_op op_mod (pe_op op_fdiv (pv 1) pe_int) pe_int) (fun _ _ => rfl)))
      (pss_one (ps_ret (pe_tup (pa_cons (pe_ix (ix_X hu) (pv 0) (pv 2) (fun _ _ => rfl)) (pa_cons (pv 4) (pa_cons (pv 5) (pa_cons (pe_ix (ix_X hu) (pv 0) (pv 3) (fun _ _ => rfl)) (pa_cons (pv 6) (pa_cons (pe_ix (ix_X hu) (pe_lst (pa_cons (pv 5) (pa_cons pe_int (pa_cons pe_int (pa_cons pe_int pa_nil))))) (pe_op op_mod (pe_op op_fdiv (pv 1) pe_int) pe_int) (fun _ _ => rfl)) pa_nil))))))))))))))), ?_⟩
  refine go_start (σ := [some a0, some a1, none, none, none, none, none]) rfl ?_
  try dsimp only [cxOf, Cx.nox, Cx.wish, Cx.tr, Cx.suite]
  obtain ⟨F, R, l, ns, n, rfl, rfl, hl, l2, l30, nd, st, hq⟩ := h
  have ll : (ns.map V.str).length = ns.length := List.length_map ..
  walk_at "*"
  rw [ll]
  walk_at "*"
  obtain ⟨i, j, ei, ej, hi, hj, ne⟩ := two_ix (x := n) (y := n / 8) (n := (ns.length : Int)) (by omega)
  rw [ej, ei]
  walk_at "*"
  refine go_newF st fun l1 F1 H1 s1 e1 st1 => ?_
  have hl := s1 _ _ hl
  clear st
  walk_at "*"
  obtain ⟨m1, em1, pm1⟩ := menuIn (L := [n / 100 % 4, n / 100 % 40, 9999, 0]) (r := n / 57 % 4) (by omega) (by show n / 57 % 4 < 4; omega) (fun k => 0 ≤ k ∧ k ≤ 9999) (by intro k hk; simp only [List.mem_cons, List.not_mem_nil, or_false] at hk; omega)
  refine go_xL (.of (st1.of e1)) em1 ?_
  clear em1 e1
  walk_at "*"
  refine go_newF st1 fun l2 F2 H2 s2 e2 st2 => ?_
  have hl := s2 _ _ hl
  clear st1
  walk_at "*"
  obtain ⟨m2, em2, pm2⟩ := menuIn (L := [1, 2, 3, 6]) (r := n / 4000 % 4) (by omega) (by show n / 4000 % 4 < 4; omega) (fun k => 1 ≤ k ∧ k ≤ 9999) (by intro k hk; simp only [List.mem_cons, List.not_mem_nil, or_false] at hk; omega)
  refine go_xL (.of (st2.of e2)) em2 ?_
  clear em2 e2
  walk_at "*"
  refine go_newF st2 fun l3 F3 H3 s3 e3 st3 => ?_
  have hl := s3 _ _ hl
  clear st2
  walk_at "*"
  obtain ⟨m3, em3, pm3⟩ := menuIn (L := [m1, n / 16000 % 4, n / 16000 % 40]) (r := n / 7 % 3) (by omega) (by show n / 7 % 3 < 3; omega) (fun k => 0 ≤ k ∧ k ≤ 9999) (by intro k hk; simp only [List.mem_cons, List.not_mem_nil, or_false] at hk; omega)
  refine go_xL (.of (st3.of e3)) em3 ?_
  clear em3 e3
  walk_at "*"
  obtain ⟨x, ex, kx⟩ := nm_at (ns := ns) (r := (i : Int)) (by omega) hi
  refine go_xL (.of (st3.of hl)) ex ?_
  walk_at "*"
  obtain ⟨y, ey, ky⟩ := nm_at (ns := ns) (r := (j : Int)) (by omega) hj
  refine go_xL (.of (st3.of hl)) ey ?_
  rw [Int.toNat_natCast] at kx ky
  walk_at "*"
  refine go_newF st3 fun l4 F4 H4 s4 e4 st4 => ?_
  have hl := s4 _ _ hl
  clear st3
  walk_at "*"
  obtain ⟨m4, em4, pm4⟩ := menuIn (L := [m2, 1, 6, 9999]) (r := n / 11 % 4) (by omega) (by show n / 11 % 4 < 4; omega) (fun k => 1 ≤ k ∧ k ≤ 9999) (by intro k hk; simp only [List.mem_cons, List.not_mem_nil, or_false] at hk; omega)
  refine go_xL (.of (st4.of e4)) em4 ?_
  clear em4 e4
  walk_at "*"
  rename_i t F5 H5 s5 e5 st5
  exact hq t ⟨x, m1, m2, y, m3, m4⟩ F5 _ ⟨List.mem_of_getElem? kx, List.mem_of_getElem? ky, nd_at nd kx ky ne, pm1, pm3, pm2, pm4⟩ (s1.trans (s2.trans (s3.trans (s4.trans s5)))) e5 st5

local macro_rules | `(tactic| walk_at "1") => `(tactic| first | ((with_reducible refine' go_I ?e ?_); (case e => exact wide_div (b := 70) (by decide +kernel) (by decide +kernel) (by decide) (by decide))) | fail)

local macro_rules | `(tactic| walk_at "1") => `(tactic| first | with_reducible refine Go.go ?_ | fail)

/-! ### _law_games -/
abbrev s__law_games : Stmt := top 14
abbrev N__law_games : List Str := ["_law_script", "_law_names_here", "_law_most", "_law_games_here", "_law_cell", "_law_x", "_law_k", "_law_one", "_law_two", "_law_mine"]
theorem sc__law_games : FnScope N__law_games ["_law_script", "_law_names_here", "_law_most"] (defScope s__law_games) := ⟨rfl, rfl, rfl, by decide +kernel, rfl, by decide +kernel, by decide +kernel⟩
def pr__law_games (K : PySem.W.Frag) : V → V → V → Hp → VK → XK → Prop := fun a0 a1 a2 H Q E => ∃ (F : Hp) (R : Cells) (sc l : Addr) (cs : List Int) (ns : List Str) (m : Nat), a0 = .ref sc ∧ a1 = .ref l ∧ a2 = .int (m : Nat) ∧ SqL K F sc (cs.map V.int) ∧ cs.length ≤ 63 ∧ m ≤ 100 ∧ F l = some (.lst (ns.map V.str)) ∧ 2 ≤ ns.length ∧ ns.length ≤ 30 ∧ ns.Nodup ∧ Sta F R H ∧ ∀ (t : Addr) (gs : GS) (F' H' : Hp), (∀ g ∈ gv gs, LGok ns g) → gs.length ≤ m → Same F F' → F' t = some (.lst (lgL gs)) → GF F' gs → Sta F' R H' → Q (.ref t) H' 
abbrev sp__law_games (K : PySem.W.Frag) : Sp := Sp3 (pr__law_games K)
theorem ok__law_games {P : Program} {w : World} {K : PySem.W.Frag} {mg : Str → Option Value} {base : Heap} {f : Addr} {fd : FuncData} (F : FunD K "_law_games" "_law_games" (defArgs s__law_games) (defBody s__law_games) (defScope s__law_games) [] [] f fd) (T : Txt K mg) (d__law_at : Dn P w K mg base CX0 1 "_law_at" ["_law_script", "_law_k"] [] (sp__law_at K)) (d__law_small_game : Dn P w K mg base CX0 1 "_law_small_game" ["_law_names_here", "_law_n"] [] (sp__law_small_game K)) (d__law_mixed : Dn P w K mg base CX0 1 "_law_mixed" ["_law_cell", "_law_k"] [] (sp__law_mixed K)) : FnOk P w K mg base CX0 2 f fd ["_law_script", "_law_names_here", "_law_most"] (sp__law_games K) := by
  refine F.ok sc__law_games (fun vs H Q E h => len3 h) (fun cdv A outer s H vs Q E hr h => ?_)
  obtain ⟨a0, a1, a2, rfl, h⟩ := h
  have hu := hu_of hr
  refine ⟨_, PSs.nox ((pss_cons (ps_set (i := 3) sc__law_games.nd rfl (by first | exact Or.inl rfl | exact Or.inr rfl) (pe_lst pa_nil))
      (pss_cons (ps_if (pt_cmpR (op_eqX hr.units) (pe_op op_mod (pe_d d__law_at (hr.mono (by decide)) rfl pass0 (pa_cons (pv 0) (pa_cons pe_int pa_nil))) pe_int) pe_int (nomark _)) (pss_cons (ps_for PassesOwn.never rfl (pi_enum (by rfl) T.b_enumerate (pa_cons (pe_slice sl_X (pe_slice sl_X (pv 0) (po_some pe_int) po_none) po_none (po_some (pv 2))) pa_nil)) (pg_tup (n := 2) rfl (pgs_cons (pg_name (i := 6) sc__law_games.nd rfl (by first | exact Or.inl rfl | exact Or.inr rfl)) (pgs_cons (pg_name (i := 4) sc__law_games.nd rfl (by first | exact Or.inl rfl | exact Or.inr rfl)) pgs_nil))) (pss_one (ps_expr (pe_bm PySem.F.plainAttrs_list PySem.F.slot_list_append PySem.F.type_list_append mt_append (pv 3) (pa_cons (pe_d d__law_small_game (hr.mono (by decide)) rfl pass0 (pa_cons (pv 1) (pa_cons (pe_d d__law_mixed (hr.mono (by decide)) rfl pass0 (pa_cons (pe_d d__law_mixed (hr.mono (by decide)) rfl pass0 (pa_cons (pv 4) (pa_cons (pv 6) pa_nil))) (pa_cons (pe_op op_addX (pv 6) pe_int) pa_nil))) pa_nil))) pa_nil)))))
      (pss_one (ps_ret (pv 3)))) pss_nil)
      (pss_cons (ps_for PassesOwn.never rfl (pi_X (pe_slice sl_X (pv 0) (po_some pe_int) po_none)) (pg_name (i := 4) sc__law_games.nd rfl (by first | exact Or.inl rfl | exact Or.inr rfl)) (pss_cons (ps_set (i := 5) sc__law_games.nd rfl (by first | exact Or.inl rfl | exact Or.inr rfl) (pv 4))
      (pss_one (ps_while PassesOwn.never (PW.pt (pw_and (pt_cmpR (op_neX hr.units) (pv 5) pe_int (nomark _)) (pw_and (pt_cmpR (op_neX hr.units) (pv 5) (pe_un un_neg pe_int) (nomark _)) (pw_and1 (pt_cmpR op_lt (pe_callB call_lenX (by rfl) T.b_len L2.A.boot_len (pa_cons (pv 3) pa_nil)) (pv 2) (nomark _)))))) (pss_cons (ps_set (i := 7) sc__law_games.nd rfl (by first | exact Or.inl rfl | exact Or.inr rfl) (pe_op op_mod (pv 5) (pe_callB call_lenX (by rfl) T.b_len L2.A.boot_len (pa_cons (pv 1) pa_nil))))
      (pss_cons (ps_set (i := 8) sc__law_games.nd rfl (by first | exact Or.inl rfl | exact Or.inr rfl) (pe_op op_mod (pe_op op_addX (pe_op op_addX (pv 7) pe_int) (pe_op op_mod (pe_op op_fdivW (pv 5) pe_int) (pe_op op_sub (pe_callB call_lenX (by rfl) T.b_len L2.A.boot_len (pa_cons (pv 1) pa_nil)) pe_int))) (pe_callB call_lenX (by rfl) T.b_len L2.A.boot_len (pa_cons (pv 1) pa_nil))))
      (pss_cons (ps_set (i := 9) sc__law_games.nd rfl (by first | exact Or.inl rfl | exact Or.inr rfl) (pe_tup (pa_cons (pe_ix (ix_X hu) (pv 1) (pv 7) (fun _ _ => rfl)) (pa_cons (pe_op op_mod (pe_op op_fdivW (pv 5) pe_int) pe_int) (pa_cons (pe_op op_addX pe_int (pe_op op_mod (pe_op op_fdivW (pv 5) pe_int) pe_int)) pa_nil)))))
      (pss_cons (ps_expr (pe_bm PySem.F.plainAttrs_list PySem.F.slot_list_append PySem.F.type_list_append mt_append (pv 3) (pa_cons (pe_op op_addX (pv 9) (pe_tup (pa_cons (pe_ix (ix_X hu) (pv 1) (pv 8) (fun _ _ => rfl)) (pa_cons (pe_op op_mod (pe_op op_fdivW (pv 5) pe_int) pe_int) (pa_cons (pe_op op_addX pe_int (pe_op op_mod (pe_op op_fdivW (pv 5) (pe_op op_mulX pe_int (pe_op op_pow pe_int pe_int))) pe_int)) pa_nil))))) pa_nil)))
      (pss_one (ps_set (i := 5) sc__law_games.nd rfl (by first | exact Or.inl rfl | exact Or.inr rfl) (pe_op op_fdivW (pv 5) (pe_op op_mulX pe_int (pe_op op_pow pe_int pe_int)))))))))))))
      (pss_one (ps_ret (pv 3))))))), ?_⟩
  refine go_start (σ := [some a0, some a1, some a2, none, none, none, none, none, none, none]) rfl ?_
  try dsimp only [cxOf, Cx.nox, Cx.wish, Cx.tr, Cx.suite]
  obtain ⟨F, R, sc, l, cs, ns, m, rfl, rfl, rfl, hS, lc, lm, hl, l2, l30, nd, st, hq⟩ := h
  walk_at "*"
  refine go_newLv st rfl fun gl H1 st1 => ?_
  clear st
  walk_at "*"
  refine go_sp2 ⟨sc, cs, 0, rfl, rfl, st1.seqL hS, lc, by omega, fun z => ?_⟩
  walk_at "*"
  rw [decI]
  obtain ⟨ms, ems, lms⟩ := cutV_map (ns := cs) (lo := some (2 : Int)) (hi := none)
  refine if2 (fun c => ?_) (fun c => ?_)
  · walk_at "*"
    refine go_slL (st1.seqL hS) ems ?_
    refine go_newF st1 fun u1 F2 H2 s2 e2 st2 => ?_
    walk_at "*"
    refine go_slL (.of (st2.of e2)) cut_takeA ?_
    refine go_newF st2 fun u2 F3 H3 s3 e3 st3 => ?_
    have hl := (s2.trans s3) _ _ hl
    clear st1 st2
    walk_at "*"
    refine go_enW (.of (st3.of e3)) ?_
    refine accEG (ms.take m) V.int (fun pre σ H' => ∃ (gs : GS) (F' : Hp) (v4 v6 : Option V), gs.length = pre.length ∧ (∀ g ∈ gv gs, LGok ns g) ∧ Same F3 F' ∧ GF F' gs ∧ Sta F' ((gl, .lst (lgL gs)) :: R) H' ∧ σ = [some (.ref sc), some (.ref l), some (.int (m : Nat)), some (.ref gl), v4, none, v6, none, none, none])
      ⟨[], F3, _, _, rfl, fun g h => (by cases h), .refl _, fun x h => (by cases h), st3, rfl⟩ (fun pre σ H' ⟨_, _, _, _, _, _, s', _, st', _⟩ => .of (st'.of (s' _ _ e3))) ?_ ?_
    · rintro pre x post T σ H4 ep ⟨gs, F4, v4, v6, lg, og, s4, gf, st4, rfl⟩ hT D' hnx hct hrt
      have lp : pre.length < m := by
        have := congrArg List.length ep
        rw [List.length_take, List.length_append, List.length_cons] at this
        omega
      obtain ⟨F5, s5, e5, st5⟩ := st4.newF hT (same_new (o := .tup [.int (pre.length : Nat), .int x]) hT) upd_same
      generalize upd H4 T (.tup [.int (pre.length : Nat), .int x]) = H5 at *
      clear st3 st4
      walk_at "*"
      refine go_sp2 ⟨_, _, rfl, rfl, by omega, by omega, fun r1 r10 r11 => ?_⟩
      walk_at "*"
      refine go_sp2 ⟨_, _, rfl, rfl, by omega, by omega, fun r2 r20 r21 => ?_⟩
      walk_at "*"
      refine go_sp2 ⟨F5, _, l, ns, r2, rfl, rfl, (s4.trans s5) _ _ hl, l2, l30, nd, st5, fun t g F6 H6 ok s6 e6 st6 => ?_⟩
      clear st5
      walk_at "*"
      rename_i H7 st7
      exact hnx _ _ ⟨gs ++ [(t, g)], F6, _, _, by rw [List.length_append, List.length_append, lg]; rfl, fun g' h' => by
        rw [show gv (gs ++ [(t, g)]) = gv gs ++ [g] by simp [gv], List.mem_append, List.mem_singleton] at h'
        rcases h' with h' | rfl
        · exact og _ h'
        · exact ok, s4.trans (s5.trans s6), (gf.same (s5.trans s6)).snoc e6, by rw [show lgL (gs ++ [(t, g)]) = lgL gs ++ [.ref t] by simp [lgL]]; exact st7, rfl⟩
    · rintro σ H4 ⟨gs, F4, v4, v6, lg, og, s4, gf, st4, rfl⟩
      clear st3
      obtain ⟨F5, s5, e5, st5⟩ := st4.freeze .rfl
      clear st4
      walk_at "*"
      exact hq gl gs F5 _ og (by rw [lg, List.length_take]; omega) (s2.trans (s3.trans (s4.trans s5))) e5 (gf.same s5) st5
  walk_at "*"
  refine go_slL (st1.seqL hS) ems ?_
  refine go_newF st1 fun u1 F2 H2 s2 e2 st2 => ?_
  have hl := s2 _ _ hl
  have ll : (ns.map V.str).length = ns.length := List.length_map ..
  clear st1
  walk_at "*"
  refine go_iL (.of (st2.of e2)) ?_
  obtain ⟨I, hI⟩ : ∃ I : Option V → St → Hp → Prop, I = fun v5 σ H' => ∃ (gs : GS) (F' : Hp) (v4 v7 v8 v9 : Option V), gs.length ≤ m ∧ (∀ g ∈ gv gs, LGok ns g) ∧ Same F2 F' ∧ GF F' gs ∧ Sta F' ((gl, .lst (lgL gs)) :: R) H' ∧ σ = [some (.ref sc), some (.ref l), some (.int (m : Nat)), some (.ref gl), v4, v5, none, v7, v8, v9] := ⟨_, rfl⟩
  refine accLO ms V.int (fun pre σ H' => ∃ v5, I v5 σ H') ⟨_, by rw [hI]; exact ⟨[], F2, _, _, _, _, Nat.zero_le _, fun g h => (by cases h), .refl _, fun x h => (by cases h), st2, rfl⟩⟩ (fun pre σ H' ⟨_, h⟩ => by rw [hI] at h; obtain ⟨_, _, _, _, _, _, _, _, s', _, st', _⟩ := h; exact .of (st'.of (s' _ _ e2))) ?_ ?_
  · rintro pre x σ H3 mx - ⟨v5, h⟩ D' hnx hct hrt
    rw [hI] at h
    obtain ⟨gs, F3, v4, v7, v8, v9, lg, og, s3, gf, st3, rfl⟩ := h
    clear st2
    walk_at "*"
    obtain ⟨W, hW⟩ : ∃ W : Nat → St → Hp → Prop, W = fun k σ H' => ∃ (gs : GS) (F' : Hp) (y : Int) (v7 v8 v9 : Option V), k = m - gs.length ∧ gs.length ≤ m ∧ (∀ g ∈ gv gs, LGok ns g) ∧ Same F2 F' ∧ GF F' gs ∧ Sta F' ((gl, .lst (lgL gs)) :: R) H' ∧ σ = [some (.ref sc), some (.ref l), some (.int (m : Nat)), some (.ref gl), some (.int x), some (.int y), none, v7, v8, v9] := ⟨_, rfl⟩
    refine ⟨W, ⟨m - gs.length, by rw [hW]; exact ⟨gs, F3, x, _, _, _, rfl, lg, og, s3, gf, st3, rfl⟩⟩, ?_⟩
    intro k σ H4 w
    rw [hW] at w
    obtain ⟨gs, F4, y, v7, v8, v9, hk, lg, og, s4, gf, st4, rfl⟩ := w
    have hl := s4 _ _ hl
    have lgl : (lgL gs).length = gs.length := List.length_map ..
    clear st3
    walk_at "*"
    rw [lgl]
    refine if2 (fun c => ?_) (fun c => ?_)
    · simp only [Bool.and_eq_true, decide_eq_true_eq] at c
      refine ⟨fun σ' H' => ∃ m', m' < k ∧ W m' σ' H', fun _ _ h => h, ?_⟩
      walk_at "*"
      rw [ll]
      walk_at "*"
      obtain ⟨i, j, ei, ej, hi, hj, ne⟩ := two_ix (x := y) (y := y / 8) (n := (ns.length : Int)) (by omega)
      rw [ej, ei]
      obtain ⟨z1, ez, kz⟩ := nm_at (ns := ns) (r := (i : Int)) (by omega) hi
      refine go_xL (.of (st4.of hl)) ez ?_
      walk_at "*"
      rename_i t5 F5 H5 s5 e5 st5
      have hl := s5 _ _ hl
      clear st4
      obtain ⟨z2, ez2, kz2⟩ := nm_at (ns := ns) (r := (j : Int)) (by omega) hj
      refine go_xL (.of (st5.of hl)) ez2 ?_
      walk_at "*"
      refine go_powI (by decide) ?_
      walk_at "*"
      rename_i t6 F6 H6 s6 e6 st6
      refine go_addT (.of (st6.of (s6 _ _ e5))) (.of (st6.of e6)) (szl (Nat.le_of_ble_eq_true rfl)) ?_
      refine go_newF st6 fun t7 F7 H7 s7 e7 st7 => ?_
      clear st5 st6
      walk_at "*"
      rename_i H8 st8
      refine go_powI (by decide) ?_
      walk_at "*"
      rw [Int.toNat_natCast] at kz kz2
      refine ⟨m - (gs.length + 1), by omega, ?_⟩
      rw [hW]
      have e7 : F7 t7 = some (.tup (gL ⟨z1, y / 64 % 10000, 1 + y / 640000 % 9999, z2, y / 6400000000 % 10000, 1 + y / (64 * 10 ^ Int.toNat 12) % 9999⟩)) := e7
      refine ⟨gs ++ [(t7, ⟨z1, y / 64 % 10000, 1 + y / 640000 % 9999, z2, y / 6400000000 % 10000, 1 + y / (64 * 10 ^ Int.toNat 12) % 9999⟩)], F7, _, _, _, _, by rw [List.length_append]; rfl, by rw [List.length_append, List.length_singleton]; omega, fun g' h' => ?_, s4.trans (s5.trans (s6.trans s7)), (gf.same (s5.trans (s6.trans s7))).snoc e7, ?_, rfl⟩
      · rw [show gv (gs ++ [(t7, ⟨z1, y / 64 % 10000, 1 + y / 640000 % 9999, z2, y / 6400000000 % 10000, 1 + y / (64 * 10 ^ Int.toNat 12) % 9999⟩)]) = gv gs ++ [⟨z1, y / 64 % 10000, 1 + y / 640000 % 9999, z2, y / 6400000000 % 10000, 1 + y / (64 * 10 ^ Int.toNat 12) % 9999⟩] by simp [gv], List.mem_append, List.mem_singleton] at h'
        rcases h' with h' | rfl
        · exact og _ h'
        · exact ⟨List.mem_of_getElem? kz, List.mem_of_getElem? kz2, nd_at nd kz kz2 ne, by dsimp only; omega, by dsimp only; omega, by dsimp only; omega, by dsimp only; omega⟩
      · rw [show ∀ u : Addr × LG, lgL (gs ++ [u]) = lgL gs ++ [.ref u.1] from fun u => by simp [lgL]]; exact st8
    · walk_at "*"
      exact hnx _ _ ⟨_, by rw [hI]; exact ⟨gs, F4, _, _, _, _, lg, og, s4, gf, st4, rfl⟩⟩
  · rintro σ H3 ⟨v5, h⟩
    rw [hI] at h
    obtain ⟨gs, F3, v4, v7, v8, v9, lg, og, s3, gf, st3, rfl⟩ := h
    clear st2
    obtain ⟨F5, s5, e5, st5⟩ := st3.freeze .rfl
    clear st3
    walk_at "*"
    exact hq gl gs F5 _ og lg (s2.trans (s3.trans s5)) e5 (gf.same s5) st5
/-! ### _law_breakers -/
abbrev s__law_breakers : Stmt := top 12
abbrev N__law_breakers : List Str := ["_law_n", "_law_some", "_law_told", "_law_k"]
theorem sc__law_breakers : FnScope N__law_breakers ["_law_n"] (defScope s__law_breakers) := ⟨rfl, rfl, rfl, by decide +kernel, rfl, by decide +kernel, by decide +kernel⟩
def pr__law_breakers (K : PySem.W.Frag) : V → Hp → VK → XK → Prop := fun a0 H Q E => ∃ (F : Hp) (R : Cells) (n : Int), a0 = .int n ∧ Sta F R H ∧ ∀ (t : Addr) (bs : List Str) (F' H' : Hp), BrOk bs → Same F F' → F' t = some (.lst (bs.map V.str)) → Sta F' R H' → Q (.ref t) H' 
abbrev sp__law_breakers (K : PySem.W.Frag) : Sp := Sp1 (pr__law_breakers K)
theorem ok__law_breakers {P : Program} {w : World} {K : PySem.W.Frag} {mg : Str → Option Value} {base : Heap} {f : Addr} {fd : FuncData} (F : FunD K "_law_breakers" "_law_breakers" (defArgs s__law_breakers) (defBody s__law_breakers) (defScope s__law_breakers) [] [] f fd) (T : Txt K mg)  : FnOk P w K mg base CX0 1 f fd ["_law_n"] (sp__law_breakers K) := by
  refine F.ok sc__law_breakers (fun vs H Q E h => len1 h) (fun cdv A outer s H vs Q E hr h => ?_)
  obtain ⟨a0, rfl, h⟩ := h
  have hu := hu_of hr
  refine ⟨_, PSs.nox ((pss_cons (ps_set (i := 1) sc__law_breakers.nd rfl (by first | exact Or.inl rfl | exact Or.inr rfl) (pe_lst (pa_cons pe_str (pa_cons pe_str (pa_cons pe_str (pa_cons pe_str pa_nil))))))
      (pss_cons (ps_set (i := 2) sc__law_breakers.nd rfl (by first | exact Or.inl rfl | exact Or.inr rfl) (pe_lst pa_nil))
      (pss_cons (ps_for PassesOwn.never rfl (pi_range1 rfl T.b_range (pa_cons (pe_op op_addX pe_int (pe_op op_mod (pv 0) pe_int)) pa_nil)) (pg_name (i := 3) sc__law_breakers.nd rfl (by first | exact Or.inl rfl | exact Or.inr rfl)) (pss_cons (ps_expr (pe_bm PySem.F.plainAttrs_list PySem.F.slot_list_append PySem.F.type_list_append mt_append (pv 2) (pa_cons (pe_bm PySem.F.plainAttrs_list PySem.F.slot_list_pop PySem.F.type_list_pop mt_popAt (pv 1) (pa_cons (pe_op op_mod (pe_op op_fdiv (pv 0) pe_int) (pe_callB call_lenX (by rfl) T.b_len L2.A.boot_len (pa_cons (pv 1) pa_nil))) pa_nil)) pa_nil)))
      (pss_one (ps_set (i := 0) sc__law_breakers.nd rfl (by first | exact Or.inl rfl | exact Or.inr rfl) (pe_op op_fdiv (pv 0) pe_int)))))
      (pss_one (ps_ret (pv 2))))))), ?_⟩
  refine go_start (σ := [some a0, none, none, none]) rfl ?_
  try dsimp only [cxOf, Cx.nox, Cx.wish, Cx.tr, Cx.suite]
  obtain ⟨F, R, n, rfl, st, hq⟩ := h
  walk_at "*"
  refine go_newLv st rfl fun sl H1 st1 => ?_
  walk_at "*"
  refine go_newLv st1 rfl fun tl' H2 st2 => ?_
  clear st st1
  walk_at "*"
  obtain ⟨mm, hm, m1, m4⟩ : ∃ mm : Nat, (1 + n % 4).toNat = mm ∧ 1 ≤ mm ∧ mm ≤ 4 := ⟨_, rfl, by omega, by omega⟩
  rw [hm]
  refine ForW.range (fun i σ H' => ∃ (ts ss : List Str) (y : Int) (v3 : Option V), (ts ++ ss).Perm BRK ∧ ts.length = i ∧ Sta F ((tl', .lst (ts.map V.str)) :: (sl, .lst (ss.map V.str)) :: R) H' ∧ σ = [some (.int y), some (.ref sl), some (.ref tl'), v3])
    ⟨[], BRK, n, _, .rfl, rfl, st2, rfl⟩ ?_ ?_
  · rintro i σ H3 hi ⟨ts, ss, y, v3, pm, lt, st3, rfl⟩
    have lsum : ts.length + ss.length = 4 := by rw [← List.length_append, pm.length_eq]; rfl
    have ls : (ss.map V.str).length = ss.length := List.length_map ..
    clear st2
    walk_at "*"
    rw [ls]
    walk_at "*"
    have b0 := Int.emod_nonneg (y / 4) (show (ss.length : Int) ≠ 0 by omega)
    have b1 := Int.emod_lt_of_pos (y / 4) (show 0 < (ss.length : Int) by omega)
    obtain ⟨k, ek⟩ : ∃ k : Nat, y / 4 % (ss.length : Int) = (k : Int) := ⟨(y / 4 % (ss.length : Int)).toNat, by omega⟩
    rw [ek]
    have hk : k < ss.length := by omega
    refine go_popS (l := sl) (xs := ss.map V.str) (k := k) st3 (.swap ..) (by rw [ls]; exact hk) (by omega) fun H4 st4 => ?_
    have st4 : Sta F ((tl', .lst (ts.map V.str)) :: (sl, .lst ((ss.map V.str).eraseIdx k)) :: R) H4 := st4.perm (.swap ..)
    clear st3
    walk_at "*"
    rename_i H5 st5
    refine ⟨ts ++ [ss[k]], ss.eraseIdx k, _, _, ?_, by rw [List.length_append, lt]; rfl, ?_, rfl⟩
    · refine List.Perm.trans ?_ pm
      rw [List.append_assoc]
      refine List.Perm.append_left ts ?_
      have e0 : ss = ss.take k ++ ss[k] :: ss.drop (k + 1) := by rw [← List.drop_eq_getElem_cons hk, List.take_append_drop]
      have e3 : (ss.take k ++ ss[k] :: ss.drop (k + 1)).Perm ([ss[k]] ++ (ss.take k ++ ss.drop (k + 1))) := List.perm_middle
      rw [List.eraseIdx_eq_take_drop_succ]
      exact e3.symm.trans (.of_eq e0.symm)
    · have e1 : (ss.map V.str).eraseIdx k = (ss.eraseIdx k).map V.str := by simp [List.eraseIdx_eq_take_drop_succ, List.map_take, List.map_drop]
      rw [e1] at st5
      rw [List.map_append]
      have e2 : (ss.map V.str)[k]'(by rw [ls]; exact hk) = V.str ss[k] := by simp
      rw [e2] at st5
      exact st5
  · rintro σ H3 ⟨ts, ss, y, v3, pm, lt, st3, rfl⟩
    clear st2
    obtain ⟨F4, s4, e4, st4⟩ := st3.freeze .rfl
    clear st3
    walk_at "*"
    have nd : (ts ++ ss).Nodup := pm.nodup_iff.mpr (show BRK.Nodup by decide +kernel)
    exact hq tl' ts F4 _ ⟨fun e => (by rw [e] at lt; simp at lt; omega), (List.nodup_append.mp nd).1, fun z mz => pm.mem_iff.mp (List.mem_append_left _ mz), by omega⟩ s4 e4 st4.tail
/-! ### _law_league -/
abbrev s__law_league : Stmt := top 15
abbrev N__law_league : List Str := ["_law_script", "_law_most", "_law_n", "_law_names_here", "_law_points"]
theorem sc__law_league : FnScope N__law_league ["_law_script", "_law_most"] (defScope s__law_league) := ⟨rfl, rfl, rfl, by decide +kernel, rfl, by decide +kernel, by decide +kernel⟩
def pr__law_league (K : PySem.W.Frag) : V → V → Hp → VK → XK → Prop := fun a0 a1 H Q E => ∃ (F : Hp) (R : Cells) (sc : Addr) (cs : List Int) (m : Nat), a0 = .ref sc ∧ a1 = .int (m : Nat) ∧ SqL K F sc (cs.map V.int) ∧ cs.length ≤ 63 ∧ m ≤ 100 ∧ Sta F R H ∧ ∀ (t pt bl gl : Addr) (p0 p1 p2 : Int) (bs ns : List Str) (gs : GS) (F' H' : Hp), (0 ≤ p0 ∧ p0 ≤ 9999) → (0 ≤ p1 ∧ p1 ≤ 9999) → (0 ≤ p2 ∧ p2 ≤ 9999) → BrOk bs → ns.Nodup → (∀ z ∈ ns, NmOk z ∧ (tl z).getLast? = some 122) → ns.length ≤ 8 → (∀ g ∈ gv gs, LGok ns g) → gs.length ≤ m → Same F F' → F' t = some (.tup [.ref pt, .ref bl, .ref gl]) → F' pt = some (.tup [.int p0, .int p1, .int p2]) → F' bl = some (.lst (bs.map V.str)) → F' gl = some (.lst (lgL gs)) → GF F' gs → Sta F' R H' → Q (.ref t) H' 
abbrev sp__law_league (K : PySem.W.Frag) : Sp := Sp2 (pr__law_league K)
theorem ok__law_league {P : Program} {w : World} {K : PySem.W.Frag} {mg : Str → Option Value} {base : Heap} {f : Addr} {fd : FuncData} (F : FunD K "_law_league" "_law_league" (defArgs s__law_league) (defBody s__law_league) (defScope s__law_league) [] [] f fd) (T : Txt K mg) (d__law_names : Dn P w K mg base CX0 2 "_law_names" ["_law_cell", "_law_many"] [] (sp__law_names K)) (d__law_at : Dn P w K mg base CX0 1 "_law_at" ["_law_script", "_law_k"] [] (sp__law_at K)) (d__law_breakers : Dn P w K mg base CX0 1 "_law_breakers" ["_law_n"] [] (sp__law_breakers K)) (d__law_games : Dn P w K mg base CX0 2 "_law_games" ["_law_script", "_law_names_here", "_law_most"] [] (sp__law_games K)) : FnOk P w K mg base CX0 3 f fd ["_law_script", "_law_most"] (sp__law_league K) := by
  refine F.ok sc__law_league (fun vs H Q E h => len2 h) (fun cdv A outer s H vs Q E hr h => ?_)
  obtain ⟨a0, a1, rfl, h⟩ := h
  have hu := hu_of hr
  refine ⟨_, PSs.nox ((pss_cons (ps_set (i := 2) sc__law_league.nd rfl (by first | exact Or.inl rfl | exact Or.inr rfl) (pe_op op_fdiv (pe_d d__law_at (hr.mono (by decide)) rfl pass0 (pa_cons (pv 0) (pa_cons pe_int pa_nil))) pe_int))
      (pss_cons (ps_set (i := 3) sc__law_league.nd rfl (by first | exact Or.inl rfl | exact Or.inr rfl) (pe_d d__law_names (hr.mono (by decide)) rfl pass0 (pa_cons (pe_d d__law_at (hr.mono (by decide)) rfl pass0 (pa_cons (pv 0) (pa_cons pe_int pa_nil))) (pa_cons (pe_op op_addX pe_int (pe_op op_mod (pv 2) pe_int)) pa_nil))))
      (pss_cons (ps_set (i := 4) sc__law_league.nd rfl (by first | exact Or.inl rfl | exact Or.inr rfl) (pe_tup (pa_cons (pe_ix (ix_X hu) (pe_lst (pa_cons pe_int (pa_cons pe_int (pa_cons pe_int (pa_cons (pe_op op_mod (pe_op op_fdiv (pv 2) pe_int) pe_int) pa_nil))))) (pe_op op_mod (pe_op op_fdiv (pv 2) pe_int) pe_int) (fun _ _ => rfl)) (pa_cons (pe_op op_mod (pe_op op_fdiv (pv 2) pe_int) pe_int) (pa_cons (pe_ix (ix_X hu) (pe_lst (pa_cons pe_int (pa_cons (pe_op op_mod (pe_op op_fdiv (pv 2) pe_int) pe_int) pa_nil))) (pe_op op_mod (pe_op op_fdiv (pv 2) pe_int) pe_int) (fun _ _ => rfl)) pa_nil)))))
      (pss_one (ps_ret (pe_tup (pa_cons (pv 4) (pa_cons (pe_d d__law_breakers (hr.mono (by decide)) rfl pass0 (pa_cons (pe_op op_fdiv (pv 2) pe_int) pa_nil)) (pa_cons (pe_d d__law_games (hr.mono (by decide)) rfl pass0 (pa_cons (pv 0) (pa_cons (pv 3) (pa_cons (pv 1) pa_nil)))) pa_nil)))))))))), ?_⟩
  refine go_start (σ := [some a0, some a1, none, none, none]) rfl ?_
  try dsimp only [cxOf, Cx.nox, Cx.wish, Cx.tr, Cx.suite]
  obtain ⟨F, R, sc, cs, m, rfl, rfl, hS, lc, lm, st, hq⟩ := h
  walk_at "*"
  refine go_sp2 ⟨sc, cs, 0, rfl, rfl, st.seqL hS, lc, by omega, fun z0 => ?_⟩
  walk_at "*"
  generalize z0 / 2 = n
  refine go_sp2 ⟨sc, cs, 1, rfl, rfl, st.seqL hS, lc, by omega, fun z1 => ?_⟩
  walk_at "*"
  obtain ⟨k, ek, k2, k8⟩ : ∃ k : Nat, 2 + n % 7 = (k : Int) ∧ 2 ≤ k ∧ k ≤ 8 := ⟨(2 + n % 7).toNat, by omega, by omega, by omega⟩
  rw [ek]
  refine go_sp2 ⟨F, R, z1, k, rfl, rfl, by omega, st, fun f l F1 H1 s1 e1 nok inj nz st1 => ?_⟩
  clear st
  have e1 : F1 l = some (.lst (((List.range k).map f).map V.str)) := by rw [e1, List.map_map]; rfl
  have hS := seqL_same hS s1
  have nsok : ∀ z ∈ (List.range k).map f, NmOk z ∧ (tl z).getLast? = some 122 := fun z mz => by
    obtain ⟨i, mi, rfl⟩ := List.mem_map.mp mz
    have := List.mem_range.mp mi
    exact ⟨nok i, nz i (by omega)⟩
  have nd : ((List.range k).map f).Nodup := by
    rw [List.nodup_iff_pairwise_ne, List.pairwise_map]
    refine (List.pairwise_lt_range).imp_of_mem fun {i j} mi mj h e => ?_
    have := inj i j (by have := List.mem_range.mp mi; omega) (by have := List.mem_range.mp mj; omega) e
    omega
  have lns : ((List.range k).map f).length = k := by simp
  generalize (List.range k).map f = ns at *
  walk_at "*"
  obtain ⟨q0, eq0, pq0⟩ := menuIn (L := [2, 3, 0, n / 7 % 10000]) (r := n / 70000 % 4) (by omega) (by show n / 70000 % 4 < 4; omega) (fun k => 0 ≤ k ∧ k ≤ 9999) (by intro k hk; simp only [List.mem_cons, List.not_mem_nil, or_false] at hk; omega)
  refine go_newF st1 fun l2 F2 H2 s2 e2 st2 => ?_
  clear st1
  walk_at "*"
  refine go_xL (.of (st2.of e2)) eq0 ?_
  walk_at "*"
  obtain ⟨q2, eq2, pq2⟩ := menuIn (L := [0, n / 7000000 % 10000]) (r := n / 70 % 2) (by omega) (by show n / 70 % 2 < 2; omega) (fun k => 0 ≤ k ∧ k ≤ 9999) (by intro k hk; simp only [List.mem_cons, List.not_mem_nil, or_false] at hk; omega)
  refine go_newF st2 fun l3 F3 H3 s3 e3 st3 => ?_
  clear st2
  walk_at "*"
  refine go_xL (.of (st3.of e3)) eq2 ?_
  walk_at "*"
  rename_i pt F4 H4 s4 e4 st4
  have s14 := s2.trans (s3.trans s4)
  clear st3
  refine go_sp1 ⟨F4, R, _, rfl, st4, fun bl bs F5 H5 bok s5 e5 st5 => ?_⟩
  clear st4
  walk_at "*"
  refine go_sp3 ⟨F5, R, sc, l, cs, ns, m, rfl, rfl, rfl, seqL_same hS (s14.trans s5), lc, lm, (s14.trans s5) _ _ e1, by omega, by omega, nd, st5, fun gl gs F6 H6 gok lg s6 e6 gf st6 => ?_⟩
  clear st5
  walk_at "*"
  rename_i t F7 H7 s7 e7 st7
  exact hq t pt bl gl q0 (n / 700000 % 10000) q2 bs ns gs F7 _ pq0 (by omega) pq2 bok nd nsok (by omega) gok lg (s1.trans (s14.trans (s5.trans (s6.trans s7)))) e7 ((s5.trans (s6.trans s7)) _ _ e4) ((s6.trans s7) _ _ e5) (s7 _ _ e6) (gf.same s7) st7

theorem _root_.L2.A.Sta.make {F H : Hp} {L : Cells} {x dx C : Addr} (st : Sta F L H) (hx : H x = none) (hd : H dx = none) (ne : dx ≠ x) : ∃ F', Same F F' ∧ Sta F' ((x, .ins C dx []) :: L) (upd (upd H dx (.own x)) x (.ins C dx [])) := by
  obtain ⟨F1, s1, e1, st1⟩ := st.newF hd (same_new hd) (o := .own x) upd_same
  have hx1 : (upd H dx (.own x)) x = none := by rw [upd_ne (Ne.symm ne)]; exact hx
  exact ⟨F1, s1, st1.newL hx1 (same_new hx1) upd_same rfl⟩
/-- what a team has -/
structure SV where
  (pts w t l r0 r1 b0 b1 : Int)
abbrev SV.zero : SV := ⟨0, 0, 0, 0, 0, 0, 0, 0⟩
def SV.take (p0 p1 p2 r s n m : Int) (x : SV) : SV :=
  { pts := x.pts + (if r = s then p1 else if r < s then p2 else p0), w := x.w + (if r = s then 0 else if r < s then 0 else 1), t := x.t + (if r = s then 1 else 0), l := x.l + (if r = s then 0 else if r < s then 1 else 0),
    r0 := x.r0 + r, r1 := x.r1 + s, b0 := x.b0 + n, b1 := x.b1 + m }
structure SA where
  (p dx tl rl fl : Addr)
abbrev stF (a : SA) (x : SV) : List (Str × V) := [("points", .int x.pts), ("tallies", .ref a.tl), ("runs", .ref a.rl), ("faced", .ref a.fl)]
abbrev stC (K : PySem.W.Frag) (a : SA) (x : SV) : Cells := [(a.p, .ins (He.ga K "Standing") a.dx (stF a x)), (a.tl, .lst [.int x.w, .int x.t, .int x.l]), (a.rl, .lst [.int x.r0, .int x.r1]), (a.fl, .lst [.int x.b0, .int x.b1])]
structure StH (K : PySem.W.Frag) (H : Hp) (a : SA) (x : SV) : Prop where
  p : H a.p = some (.ins (He.ga K "Standing") a.dx (stF a x))
  tl : H a.tl = some (.lst [.int x.w, .int x.t, .int x.l])
  rl : H a.rl = some (.lst [.int x.r0, .int x.r1])
  fl : H a.fl = some (.lst [.int x.b0, .int x.b1])
theorem StH.same {K : PySem.W.Frag} {H H' : Hp} {a : SA} {x : SV} (h : StH K H a x) (s : Same H H') : StH K H' a x := ⟨s _ _ h.p, s _ _ h.tl, s _ _ h.rl, s _ _ h.fl⟩
theorem _root_.L2.A.Sta.std {K : PySem.W.Frag} {F H : Hp} {a : SA} {x : SV} {R : Cells} (st : Sta F (stC K a x ++ R) H) : StH K H a x :=
  ⟨st.get (.head _), st.get (.tail _ (.head _)), st.get (.tail _ (.tail _ (.head _))), st.get (.tail _ (.tail _ (.tail _ (.head _))))⟩
def SV.num (x : SV) : Int := x.r0 * x.b1 - x.r1 * x.b0
def SV.parts (x : SV) : Int := x.b0 * x.b1
def SV.by_ (x : SV) : Int := (Int.gcd x.num x.parts : Int)
abbrev rateL (x : SV) : List V := [.int (x.num / x.by_), .int (x.parts / x.by_)]
/-- sizes, k games in; at least one -/
structure SVok (k : Int) (x : SV) : Prop where
  r0 : 0 ≤ x.r0 ∧ x.r0 ≤ 9999 * k
  r1 : 0 ≤ x.r1 ∧ x.r1 ≤ 9999 * k
  b0 : 1 ≤ x.b0 ∧ x.b0 ≤ 9999 * k
  b1 : 1 ≤ x.b1 ∧ x.b1 ≤ 9999 * k
theorem parts_lt {k : Int} {x : SV} (h : SVok k x) (hk : k ≤ 100) : 1 ≤ x.parts ∧ x.parts < 2 ^ 60 := by
  unfold SV.parts
  have h0 := h.b0
  have h1 := h.b1
  have e1 : 1 * 1 ≤ x.b0 * x.b1 := Int.mul_le_mul h0.1 h1.1 (by decide) (by omega)
  have e2 : x.b0 * x.b1 ≤ 999900 * 999900 := Int.mul_le_mul (by omega) (by omega) (by omega) (by decide)
  exact ⟨by omega, by omega⟩
theorem by_pos {k : Int} {x : SV} (h : SVok k x) (hk : k ≤ 100) : 1 ≤ x.by_ ∧ x.by_ < 2 ^ 60 := by
  obtain ⟨p1, p2⟩ := parts_lt h hk
  unfold SV.by_
  have hd : ((Int.gcd x.num x.parts : Nat) : Int) ∣ x.parts := Int.gcd_dvd_right ..
  have hle := Int.le_of_dvd (by omega) hd
  have h0 : Int.gcd x.num x.parts ≠ 0 := fun e => by
    rw [e] at hd
    have := Int.zero_dvd.mp hd
    omega
  omega
theorem gcd_step {a b : Int} (ha : 0 ≤ a) (hb : 0 < b) : Int.gcd b (a % b) = Int.gcd a b := by
  obtain ⟨x, rfl⟩ := Int.eq_ofNat_of_zero_le ha
  obtain ⟨y, rfl⟩ := Int.eq_ofNat_of_zero_le (Int.le_of_lt hb)
  show Nat.gcd _ _ = Nat.gcd _ _
  have e : ((x : Int) % (y : Int)).natAbs = x % y := by omega
  rw [e, Int.natAbs_natCast, Int.natAbs_natCast, Nat.gcd_comm y, Nat.gcd_comm x y, Nat.gcd_rec y x]
theorem gcd_zero {a : Int} (ha : 0 ≤ a) : ((Int.gcd a 0 : Nat) : Int) = a := by
  show ((Nat.gcd a.natAbs 0 : Nat) : Int) = a
  rw [Nat.gcd_zero_right]; omega

/-! ### common_part -/
abbrev s_common_part : Stmt := top 1
abbrev N_common_part : List Str := ["one", "other"]
theorem sc_common_part : FnScope N_common_part ["one", "other"] (defScope s_common_part) := ⟨rfl, rfl, rfl, by decide +kernel, rfl, by decide +kernel, by decide +kernel⟩
def pr_common_part (K : PySem.W.Frag) : V → V → Hp → VK → XK → Prop := fun a0 a1 H Q E => ∃ (x y : Int), a0 = .int x ∧ a1 = .int y ∧ 0 ≤ x ∧ 0 ≤ y ∧ Q (.int (Int.gcd x y : Int)) H
abbrev sp_common_part (K : PySem.W.Frag) : Sp := Sp2 (pr_common_part K)
theorem ok_common_part {P : Program} {w : World} {K : PySem.W.Frag} {mg : Str → Option Value} {base : Heap} {f : Addr} {fd : FuncData} (F : FunD K "common_part" "common_part" (defArgs s_common_part) (defBody s_common_part) (defScope s_common_part) [] [] f fd) (T : Txt K mg)  : FnOk P w K mg base CX0 1 f fd ["one", "other"] (sp_common_part K) := by
  refine F.ok sc_common_part (fun vs H Q E h => len2 h) (fun cdv A outer s H vs Q E hr h => ?_)
  obtain ⟨a0, a1, rfl, h⟩ := h
  have hu := hu_of hr
  refine ⟨_, PSs.nox ((pss_cons (ps_while PassesOwn.never (pt_cmpR op_gt (pv 1) pe_int (nomark _)) (pss_one (ps_par (i := 0) (j := 1) rfl sc_common_part.nd rfl rfl (by decide) rfl rfl (pa_cons (pv 1) (pa_cons (pe_op op_mod (pv 0) (pv 1)) pa_nil)) (by rfl))))
      (pss_one (ps_ret (pv 0))))), ?_⟩
  refine go_start (σ := [some a0, some a1]) rfl ?_
  try dsimp only [cxOf, Cx.nox, Cx.wish, Cx.tr, Cx.suite]
  obtain ⟨x, y, rfl, rfl, h1, h2, hq⟩ := h
  walk_at "*"
  obtain ⟨W, hW⟩ : ∃ W : Nat → St → Hp → Prop, W = fun k σ H' => ∃ (u v : Int), 0 ≤ u ∧ 0 ≤ v ∧ k = v.toNat ∧ Int.gcd u v = Int.gcd x y ∧ H' = H ∧ σ = [some (.int u), some (.int v)] := ⟨_, rfl⟩
  refine ⟨W, ⟨y.toNat, by rw [hW]; exact ⟨x, y, h1, h2, rfl, rfl, rfl, rfl⟩⟩, ?_⟩
  intro k σ H4 w
  rw [hW] at w
  obtain ⟨u, v, u0, v0, hk, hg, rfl, rfl⟩ := w
  walk_at "*"
  refine if2 (fun c => ?_) (fun c => ?_)
  · have c := of_decide_eq_true c
    refine ⟨fun σ' H' => ∃ m', m' < k ∧ W m' σ' H', fun _ _ h => h, ?_⟩
    walk_at "*"
    have m0 := Int.emod_nonneg u (show v ≠ 0 by omega)
    have m1 := Int.emod_lt_of_pos u c
    refine ⟨(u % v).toNat, by omega, ?_⟩
    rw [hW]
    exact ⟨v, u % v, v0, m0, rfl, (gcd_step u0 c).trans hg, rfl, rfl⟩
  · have c := of_decide_eq_false c
    obtain rfl : v = 0 := by omega
    walk_at "*"
    exact ret_V (by rw [← hg, gcd_zero u0]) hq
/-! ### lowest_terms -/
abbrev s_lowest_terms : Stmt := top 2
abbrev N_lowest_terms : List Str := ["number", "parts", "by"]
theorem sc_lowest_terms : FnScope N_lowest_terms ["number", "parts"] (defScope s_lowest_terms) := ⟨rfl, rfl, rfl, by decide +kernel, rfl, by decide +kernel, by decide +kernel⟩
def pr_lowest_terms (K : PySem.W.Frag) : V → V → Hp → VK → XK → Prop := fun a0 a1 H Q E => ∃ (x y : Int), a0 = .int x ∧ a1 = .int y ∧ 1 ≤ y ∧ y < 2 ^ 60 ∧ NewO (.tup [.int (x / (Int.gcd x y : Int)), .int (y / (Int.gcd x y : Int))]) H Q
abbrev sp_lowest_terms (K : PySem.W.Frag) : Sp := Sp2 (pr_lowest_terms K)
theorem ok_lowest_terms {P : Program} {w : World} {K : PySem.W.Frag} {mg : Str → Option Value} {base : Heap} {f : Addr} {fd : FuncData} (F : FunD K "lowest_terms" "lowest_terms" (defArgs s_lowest_terms) (defBody s_lowest_terms) (defScope s_lowest_terms) [] [] f fd) (T : Txt K mg) (d_common_part : Dn P w K mg base CX0 1 "common_part" ["one", "other"] [] (sp_common_part K)) : FnOk P w K mg base CX0 2 f fd ["number", "parts"] (sp_lowest_terms K) := by
  refine F.ok sc_lowest_terms (fun vs H Q E h => len2 h) (fun cdv A outer s H vs Q E hr h => ?_)
  obtain ⟨a0, a1, rfl, h⟩ := h
  have hu := hu_of hr
  refine ⟨_, PSs.nox ((pss_cons (ps_set (i := 2) sc_lowest_terms.nd rfl (by first | exact Or.inl rfl | exact Or.inr rfl) (pe_d d_common_part (hr.mono (by decide)) rfl pass0 (pa_cons (pe_callB call_absI (by rfl) T.b_abs L2.A.boot_abs (pa_cons (pv 0) pa_nil)) (pa_cons (pv 1) pa_nil))))
      (pss_one (ps_ret (pe_tup (pa_cons (pe_op op_fdivW (pv 0) (pv 2)) (pa_cons (pe_op op_fdivW (pv 1) (pv 2)) pa_nil))))))), ?_⟩
  refine go_start (σ := [some a0, some a1, none]) rfl ?_
  try dsimp only [cxOf, Cx.nox, Cx.wish, Cx.tr, Cx.suite]
  obtain ⟨x, y, rfl, rfl, h1, h2, hq⟩ := h
  have hd : ((Int.gcd x y : Nat) : Int) ∣ y := Int.gcd_dvd_right ..
  have hle := Int.le_of_dvd (by omega) hd
  have h0 : Int.gcd x y ≠ 0 := fun e => by
    rw [e] at hd
    have := Int.zero_dvd.mp hd
    omega
  have eg : Int.gcd ((x.natAbs : Nat) : Int) y = Int.gcd x y := by show Nat.gcd _ _ = Nat.gcd _ _; rw [Int.natAbs_natCast]
  walk_at "*"
  refine go_sp2 ⟨_, _, rfl, rfl, by omega, by omega, ?_⟩
  rw [eg]
  generalize Int.gcd x y = g at *
  walk_at "*"
  refine go_I (wide_div (b := 60) (by omega) (by omega) (by decide) (by decide)) ?_
  walk_at "*"
  refine go_I (wide_div (b := 60) (by omega) (by omega) (by decide) (by decide)) ?_
  walk_at "*"
  exact hq
/-! ### Standing.__init__ -/
abbrev s_Standing_init : Stmt := inClass (top 3) 0
abbrev N_Standing_init : List Str := ["self"]
theorem sc_Standing_init : FnScope N_Standing_init ["self"] (defScope s_Standing_init) := ⟨rfl, rfl, rfl, by decide +kernel, rfl, by decide +kernel, by decide +kernel⟩
def pr_Standing_init (K : PySem.W.Frag) : V → Hp → VK → XK → Prop := fun a0 H Q E => ∃ (F : Hp) (R : Cells) (p dx : Addr), a0 = .ref p ∧ Sta F ((p, .ins (He.ga K "Standing") dx []) :: R) H ∧ ∀ (a : SA) H', a.p = p → Sta F (stC K a SV.zero ++ R) H' → Q .non H' 
abbrev sp_Standing_init (K : PySem.W.Frag) : Sp := Sp1 (pr_Standing_init K)
theorem ok_Standing_init {P : Program} {w : World} {K : PySem.W.Frag} {mg : Str → Option Value} {base : Heap} {f : Addr} {fd : FuncData} (F : FunD K "__init__" "Standing.__init__" (defArgs s_Standing_init) (defBody s_Standing_init) (defScope s_Standing_init) [] [] f fd) (T : Txt K mg)  : FnOk P w K mg base CX0 1 f fd ["self"] (sp_Standing_init K) := by
  refine F.ok sc_Standing_init (fun vs H Q E h => len1 h) (fun cdv A outer s H vs Q E hr h => ?_)
  obtain ⟨a0, rfl, h⟩ := h
  have hu := hu_of hr
  refine ⟨_, PSs.nox ((pss_cons (ps_fld (pv 0) pe_int rfl)
      (pss_cons (ps_fld (pv 0) (pe_lst (pa_cons pe_int (pa_cons pe_int (pa_cons pe_int pa_nil)))) rfl)
      (pss_cons (ps_fld (pv 0) (pe_lst (pa_cons pe_int (pa_cons pe_int pa_nil))) rfl)
      (pss_one (ps_fld (pv 0) (pe_lst (pa_cons pe_int (pa_cons pe_int pa_nil))) rfl)))))), ?_⟩
  have c_Standing := T.cls_Standing
  have n_Standing_faced := T.noat_Standing_faced
  have n_Standing_points := T.noat_Standing_points
  have n_Standing_runs := T.noat_Standing_runs
  have n_Standing_tallies := T.noat_Standing_tallies
  refine go_start (σ := [some a0]) rfl ?_
  try dsimp only [cxOf, Cx.nox, Cx.wish, Cx.tr, Cx.suite]
  obtain ⟨F, R, p, dx, rfl, st, hq⟩ := h
  walk_at "*"
  rename_i H1 st1
  refine go_newLv st1 rfl fun t1 H2 st2 => ?_
  clear st st1
  walk_at "*"
  rename_i H3 st3
  refine go_newLv st3 rfl fun t2 H4 st4 => ?_
  clear st2 st3
  walk_at "*"
  rename_i H5 st5
  refine go_newLv st5 rfl fun t3 H6 st6 => ?_
  clear st4 st5
  walk_at "*"
  rename_i H7 st7
  refine hq ⟨p, dx, t1, t2, t3⟩ _ rfl ?_
  have st8 : Sta F ((p, .ins (He.ga K "Standing") dx (stF ⟨p, dx, t1, t2, t3⟩ SV.zero)) :: (t3, .lst [.int 0, .int 0]) :: (t2, .lst [.int 0, .int 0]) :: (t1, .lst [.int 0, .int 0, .int 0]) :: R) H7 := st7
  exact st8.perm (.cons _ (((List.Perm.swap ..).trans (.cons _ (.swap ..))).trans (.swap ..) |>.trans (.cons _ (.refl _)) |>.trans (.refl _)))
/-! ### Standing.take_game -/
abbrev s_Standing_take_game : Stmt := inClass (top 3) 1
abbrev N_Standing_take_game : List Str := ["self", "points", "runs", "balls", "place", "k"]
theorem sc_Standing_take_game : FnScope N_Standing_take_game ["self", "points", "runs", "balls"] (defScope s_Standing_take_game) := ⟨rfl, rfl, rfl, by decide +kernel, rfl, by decide +kernel, by decide +kernel⟩
def pr_Standing_take_game (K : PySem.W.Frag) : V → V → V → V → Hp → VK → XK → Prop := fun a0 a1 a2 a3 H Q E => ∃ (F : Hp) (R : Cells) (a : SA) (x : SV) (pt ra ba : Addr) (p0 p1 p2 r s n m : Int), a0 = .ref a.p ∧ a1 = .ref pt ∧ a2 = .ref ra ∧ a3 = .ref ba ∧ F pt = some (.tup [.int p0, .int p1, .int p2]) ∧ F ra = some (.lst [.int r, .int s]) ∧ F ba = some (.lst [.int n, .int m]) ∧ Sta F (stC K a x ++ R) H ∧ ∀ H', Sta F (stC K a (x.take p0 p1 p2 r s n m) ++ R) H' → Q .non H' 
abbrev sp_Standing_take_game (K : PySem.W.Frag) : Sp := Sp4 (pr_Standing_take_game K)
theorem ok_Standing_take_game {P : Program} {w : World} {K : PySem.W.Frag} {mg : Str → Option Value} {base : Heap} {f : Addr} {fd : FuncData} (F : FunD K "take_game" "Standing.take_game" (defArgs s_Standing_take_game) (defBody s_Standing_take_game) (defScope s_Standing_take_game) [] [] f fd) (T : Txt K mg)  : FnOk P w K mg base CX0 1 f fd ["self", "points", "runs", "balls"] (sp_Standing_take_game K) := by
  refine F.ok sc_Standing_take_game (fun vs H Q E h => len4 h) (fun cdv A outer s H vs Q E hr h => ?_)
  obtain ⟨a0, a1, a2, a3, rfl, h⟩ := h
  have hu := hu_of hr
  refine ⟨_, PSs.nox ((pss_cons (ps_set (i := 4) sc_Standing_take_game.nd rfl (by first | exact Or.inl rfl | exact Or.inr rfl) pe_int)
      (pss_cut (ps_if (pt_cmpR (op_neX hr.units) (pe_ix (ix_X hu) (pv 2) pe_int (fun _ _ => rfl)) (pe_ix (ix_X hu) (pv 2) pe_int (fun _ _ => rfl)) (nomark _)) (pss_one (ps_set (i := 4) sc_Standing_take_game.nd rfl (by first | exact Or.inl rfl | exact Or.inr rfl) (pe_op op_mulX pe_int (pe_callTy call_intX (by rfl) T.b_int L2.A.boot_int (pa_cons (pe_cmpR op_lt (pe_ix (ix_X hu) (pv 2) pe_int (fun _ _ => rfl)) (pe_ix (ix_X hu) (pv 2) pe_int (fun _ _ => rfl)) (nomark _)) pa_nil))))) pss_nil)
      (pss_cut (ps_augS (pe_fld (pv 0) rfl) (pv 4) get_L pe_int ip_addX (set_X hu))
      (pss_cons (ps_fldaug (pv 0) (pe_ix (ix_X hu) (pv 1) (pv 4) (fun _ _ => rfl)) in_add)
      (pss_one (ps_for PassesOwn.never rfl (pi_range1 rfl T.b_range (pa_cons pe_int pa_nil)) (pg_name (i := 5) sc_Standing_take_game.nd rfl (by first | exact Or.inl rfl | exact Or.inr rfl)) (pss_cons (ps_augS (pe_fld (pv 0) rfl) (pv 5) get_L (pe_ix (ix_X hu) (pv 2) (pv 5) (fun _ _ => rfl)) ip_addX (set_X hu))
      (pss_one (ps_augS (pe_fld (pv 0) rfl) (pv 5) get_L (pe_ix (ix_X hu) (pv 3) (pv 5) (fun _ _ => rfl)) ip_addX (set_X hu))))))))))), ?_⟩
  have c_Standing := T.cls_Standing
  have n_Standing_faced := T.noat_Standing_faced
  have n_Standing_points := T.noat_Standing_points
  have n_Standing_runs := T.noat_Standing_runs
  have n_Standing_tallies := T.noat_Standing_tallies
  refine go_start (σ := [some a0, some a1, some a2, some a3, none, none]) rfl ?_
  try dsimp only [cxOf, Cx.nox, Cx.wish, Cx.tr, Cx.suite]
  obtain ⟨F, R, a, x, pt, ra, ba, p0, p1, p2, r, s, n, m, rfl, rfl, rfl, rfl, hp, hr, hb, st, hq⟩ := h
  walk_at "*"
  refine go_cut (fun σ' H' => Sta F (stC K a x ++ R) H' ∧ σ' = [some (.ref a.p), some (.ref pt), some (.ref ra), some (.ref ba), some (.int (if r = s then 1 else if r < s then 2 else 0)), none]) ?_ ?_
  · walk_at "*"
    rw [decI]
    by_cases c : r = s
    · refine ite_F (by simp [c]) ?_
      walk_at "*"
      exact ⟨st, by rw [if_pos c]⟩
    · refine ite_T (by simp [c]) ?_
      walk_at "*"
      refine ⟨st, ?_⟩
      rw [if_neg c]
      by_cases c2 : r < s
      · rw [if_pos c2, decide_eq_true c2]; rfl
      · rw [if_neg c2, decide_eq_false c2]; rfl
  rintro σ' H1 ⟨st, rfl⟩
  have sp := st.std.p
  walk_at "*"
  refine go_cut (fun σ' H' => Sta F (stC K a { x with w := x.w + (if r = s then 0 else if r < s then 0 else 1), t := x.t + (if r = s then 1 else 0), l := x.l + (if r = s then 0 else if r < s then 1 else 0) } ++ R) H' ∧ σ' = [some (.ref a.p), some (.ref pt), some (.ref ra), some (.ref ba), some (.int (if r = s then 1 else if r < s then 2 else 0)), none]) ?_ ?_
  · by_cases c : r = s
    · simp only [if_pos c]
      walk_at "*"
      refine go_xLg (.of (st.get (p := a.tl) (.tail _ (.head _)))) rfl ?_
      walk_at "*"
      refine go_sLS (l := a.tl) (n := 1) st (.swap ..) rfl fun H2 st2 => ?_
      clear st
      have st3 : Sta F (stC K a { x with t := x.t + 1 } ++ R) H2 := st2.perm (.swap ..)
      walk_at "*"
      exact ⟨by simp only [Int.add_zero]; exact st3, rfl⟩
    · simp only [if_neg c]
      by_cases c2 : r < s
      · simp only [if_pos c2]
        walk_at "*"
        refine go_xLg (.of (st.get (p := a.tl) (.tail _ (.head _)))) rfl ?_
        walk_at "*"
        refine go_sLS (l := a.tl) (n := 2) st (.swap ..) rfl fun H2 st2 => ?_
        clear st
        have st3 : Sta F (stC K a { x with l := x.l + 1 } ++ R) H2 := st2.perm (.swap ..)
        walk_at "*"
        exact ⟨by simp only [Int.add_zero]; exact st3, rfl⟩
      · simp only [if_neg c2]
        walk_at "*"
        refine go_xLg (.of (st.get (p := a.tl) (.tail _ (.head _)))) rfl ?_
        walk_at "*"
        refine go_sLS (l := a.tl) (n := 0) st (.swap ..) rfl fun H2 st2 => ?_
        clear st
        have st3 : Sta F (stC K a { x with w := x.w + 1 } ++ R) H2 := st2.perm (.swap ..)
        walk_at "*"
        exact ⟨by simp only [Int.add_zero]; exact st3, rfl⟩
  rintro σ' H2 ⟨st2, rfl⟩
  clear st sp
  unfold SV.take at hq
  have eat : L2.atI [V.int p0, .int p1, .int p2] (if r = s then 1 else if r < s then 2 else 0) = some (.int (if r = s then p1 else if r < s then p2 else p0)) := by
    by_cases c : r = s
    · simp only [if_pos c]; exact at1
    · simp only [if_neg c]
      by_cases c2 : r < s
      · simp only [if_pos c2]; exact at2
      · simp only [if_neg c2]; exact at0
  generalize x.w + (if r = s then 0 else if r < s then 0 else 1) = w' at *
  generalize x.t + (if r = s then 1 else 0) = t' at *
  generalize x.l + (if r = s then 0 else if r < s then 1 else 0) = l' at *
  generalize (if r = s then (1 : Int) else if r < s then 2 else 0) = v at *
  have sp := st2.std.p
  walk_at "*"
  refine go_xT (.of (st2.of hp)) eat ?_
  walk_at "*"
  rename_i H2' st2'
  have st2 : Sta F (stC K a ⟨x.pts + (if r = s then p1 else if r < s then p2 else p0), w', t', l', x.r0, x.r1, x.b0, x.b1⟩ ++ R) H2' := st2'
  clear st2' sp eat
  generalize x.pts + (if r = s then p1 else if r < s then p2 else p0) = pts' at *
  walk_at "*"
  rw [show Int.toNat 2 = 2 from rfl]
  refine ForW.range (fun i σ H' => ∃ v5, Sta F (stC K a ⟨pts', w', t', l', x.r0 + (if i = 0 then 0 else r), x.r1 + (if i = 2 then s else 0), x.b0 + (if i = 0 then 0 else n), x.b1 + (if i = 2 then m else 0)⟩ ++ R) H' ∧ σ = [some (.ref a.p), some (.ref pt), some (.ref ra), some (.ref ba), some (.int v), v5])
    ⟨_, by simp only [if_true, Int.add_zero, if_neg (show ¬ (0 = 2) by decide)]; exact st2, rfl⟩ ?_ ?_
  · rintro i σ H3 hi ⟨v5, st3, rfl⟩
    clear st2
    have h01 : i = 0 ∨ i = 1 := by omega
    rcases h01 with rfl | rfl
    · simp only [if_true, Int.add_zero, if_neg (show ¬ (0 = 2) by decide)] at st3
      have sp := st3.std.p
      rw [show (0 : Int) + ((0 : Nat) : Int) = 0 from rfl]
      walk_at "*"
      refine go_xLg (.of (st3.get (p := a.rl) (.tail _ (.tail _ (.head _))))) rfl ?_
      walk_at "*"
      refine go_sLS (l := a.rl) (n := 0) (xs := [.int x.r0, .int x.r1]) st3 (by walk_at "perm") rfl fun H4 st4 => ?_
      have st4 : Sta F (stC K a ⟨pts', w', t', l', x.r0 + r, x.r1, x.b0, x.b1⟩ ++ R) H4 := Sta.pull (R := []) (B := stC K a ⟨pts', w', t', l', x.r0 + r, x.r1, x.b0, x.b1⟩ ++ R) st4 (by rw [List.append_nil]; exact ((List.Perm.swap ..).trans (.cons _ (.swap ..))))
      have sp := st4.std.p
      clear st3
      walk_at "*"
      refine go_xLg (.of (st4.get (p := a.fl) (.tail _ (.tail _ (.tail _ (.head _)))))) rfl ?_
      walk_at "*"
      refine go_sLS (l := a.fl) (n := 0) (xs := [.int x.b0, .int x.b1]) st4 (by walk_at "perm") rfl fun H5 st5 => ?_
      walk_at "*"
      have st6 : Sta F (stC K a ⟨pts', w', t', l', x.r0 + r, x.r1, x.b0 + n, x.b1⟩ ++ R) H5 := Sta.perm st5 ((List.Perm.swap ..).trans (.cons _ ((List.Perm.swap ..).trans (.cons _ (.swap ..)))))
      refine ⟨_, ?_, rfl⟩
      simp only [if_neg (show ¬ (0 + 1 = 0) by decide), if_neg (show ¬ (0 + 1 = 2) by decide), Int.add_zero]
      exact st6
    · simp only [if_neg (show ¬ (1 = 0) by decide), if_neg (show ¬ (1 = 2) by decide), Int.add_zero] at st3
      have sp := st3.std.p
      rw [show (0 : Int) + ((1 : Nat) : Int) = 1 from rfl]
      walk_at "*"
      refine go_xLg (.of (st3.get (p := a.rl) (.tail _ (.tail _ (.head _))))) rfl ?_
      walk_at "*"
      refine go_sLS (l := a.rl) (n := 1) (xs := [.int (x.r0 + r), .int x.r1]) st3 (by walk_at "perm") rfl fun H4 st4 => ?_
      have st4 : Sta F (stC K a ⟨pts', w', t', l', x.r0 + r, x.r1 + s, x.b0 + n, x.b1⟩ ++ R) H4 := Sta.perm st4 ((List.Perm.swap ..).trans (.cons _ (.swap ..)))
      have sp := st4.std.p
      clear st3
      walk_at "*"
      refine go_xLg (.of (st4.get (p := a.fl) (.tail _ (.tail _ (.tail _ (.head _)))))) rfl ?_
      walk_at "*"
      refine go_sLS (l := a.fl) (n := 1) (xs := [.int (x.b0 + n), .int x.b1]) st4 (by walk_at "perm") rfl fun H5 st5 => ?_
      walk_at "*"
      have st6 : Sta F (stC K a ⟨pts', w', t', l', x.r0 + r, x.r1 + s, x.b0 + n, x.b1 + m⟩ ++ R) H5 := Sta.perm st5 ((List.Perm.swap ..).trans (.cons _ ((List.Perm.swap ..).trans (.cons _ (.swap ..)))))
      refine ⟨_, ?_, rfl⟩
      simp only [if_neg (show ¬ (1 + 1 = 0) by decide), if_pos (show 1 + 1 = 2 by decide)]
      exact st6
  · rintro σ H3 ⟨v5, st3, rfl⟩
    simp only [if_neg (show ¬ (2 = 0) by decide), if_true] at st3
    clear st2
    walk_at "*"
    exact hq _ st3
/-! ### Standing.rate -/
abbrev s_Standing_rate : Stmt := inClass (top 3) 2
abbrev N_Standing_rate : List Str := ["self", "number"]
theorem sc_Standing_rate : FnScope N_Standing_rate ["self"] (defScope s_Standing_rate) := ⟨rfl, rfl, rfl, by decide +kernel, rfl, by decide +kernel, by decide +kernel⟩
def pr_Standing_rate (K : PySem.W.Frag) : V → Hp → VK → XK → Prop := fun a0 H Q E => ∃ (a : SA) (x : SV) (k : Int), a0 = .ref a.p ∧ StH K H a x ∧ SVok k x ∧ k ≤ 100 ∧ NewO (.tup (rateL x)) H Q
abbrev sp_Standing_rate (K : PySem.W.Frag) : Sp := Sp1 (pr_Standing_rate K)
theorem ok_Standing_rate {P : Program} {w : World} {K : PySem.W.Frag} {mg : Str → Option Value} {base : Heap} {f : Addr} {fd : FuncData} (F : FunD K "rate" "Standing.rate" (defArgs s_Standing_rate) (defBody s_Standing_rate) (defScope s_Standing_rate) [] [] f fd) (T : Txt K mg) (d_lowest_terms : Dn P w K mg base CX0 2 "lowest_terms" ["number", "parts"] [] (sp_lowest_terms K)) : FnOk P w K mg base CX0 3 f fd ["self"] (sp_Standing_rate K) := by
  refine F.ok sc_Standing_rate (fun vs H Q E h => len1 h) (fun cdv A outer s H vs Q E hr h => ?_)
  obtain ⟨a0, rfl, h⟩ := h
  have hu := hu_of hr
  refine ⟨_, PSs.nox ((pss_cons (ps_set (i := 1) sc_Standing_rate.nd rfl (by first | exact Or.inl rfl | exact Or.inr rfl) (pe_op op_sub (pe_op op_mulX (pe_ix (ix_X hu) (pe_fld (pv 0) rfl) pe_int (fun _ _ => rfl)) (pe_ix (ix_X hu) (pe_fld (pv 0) rfl) pe_int (fun _ _ => rfl))) (pe_op op_mulX (pe_ix (ix_X hu) (pe_fld (pv 0) rfl) pe_int (fun _ _ => rfl)) (pe_ix (ix_X hu) (pe_fld (pv 0) rfl) pe_int (fun _ _ => rfl)))))
      (pss_one (ps_ret (pe_d d_lowest_terms (hr.mono (by decide)) rfl pass0 (pa_cons (pv 1) (pa_cons (pe_op op_mulX (pe_ix (ix_X hu) (pe_fld (pv 0) rfl) pe_int (fun _ _ => rfl)) (pe_ix (ix_X hu) (pe_fld (pv 0) rfl) pe_int (fun _ _ => rfl))) pa_nil))))))), ?_⟩
  have c_Standing := T.cls_Standing
  have n_Standing_faced := T.noat_Standing_faced
  have n_Standing_runs := T.noat_Standing_runs
  refine go_start (σ := [some a0, none]) rfl ?_
  try dsimp only [cxOf, Cx.nox, Cx.wish, Cx.tr, Cx.suite]
  obtain ⟨a, x, k, rfl, S, ok, hk, hq⟩ := h
  obtain ⟨p1, p2⟩ := parts_lt ok hk
  have sp := S.p
  have srl := S.rl
  have sfl := S.fl
  have h0 := ok.r0
  have h1 := ok.r1
  have h2 := ok.b0
  have h3 := ok.b1
  walk_at "*"
  exact go_sp2 ⟨_, _, rfl, rfl, p1, p2, hq⟩

section
variable {κ γ : Type} [DecidableEq κ] {g0 : γ} {f : γ → γ} {k : κ}
/-- the entry of a key changed by f, laid anew at the end where it isn't there -/
def updK (g0 : γ) (f : γ → γ) (k : κ) : List (κ × γ) → List (κ × γ)
  | [] => [(k, f g0)]
  | p :: r => if p.1 = k then (k, f p.2) :: r else p :: updK g0 f k r
def runK (g0 : γ) (ops : List (κ × (γ → γ))) (acc : List (κ × γ)) : List (κ × γ) := ops.foldl (fun a o => updK g0 o.2 o.1 a) acc
def ordK (ks : List κ) : List κ := ks.foldl (fun o k => if k ∈ o then o else o ++ [k]) []
def valO (g0 : γ) (ops : List (κ × (γ → γ))) (k : κ) : γ := (ops.filter fun o => decide (o.1 = k)).foldl (fun b o => o.2 b) g0
theorem ordK_snoc {ks : List κ} {k : κ} : ordK (ks ++ [k]) = if k ∈ ordK ks then ordK ks else ordK ks ++ [k] := by unfold ordK; rw [List.foldl_append]; rfl
theorem runK_snoc {ops : List (κ × (γ → γ))} {o : κ × (γ → γ)} {acc : List (κ × γ)} : runK g0 (ops ++ [o]) acc = updK g0 o.2 o.1 (runK g0 ops acc) := by unfold runK; rw [List.foldl_append]; rfl
theorem runK_append {xs ys : List (κ × (γ → γ))} {acc : List (κ × γ)} : runK g0 (xs ++ ys) acc = runK g0 ys (runK g0 xs acc) := by unfold runK; rw [List.foldl_append]
theorem valO_snoc {ops : List (κ × (γ → γ))} {o : κ × (γ → γ)} {j : κ} : valO g0 (ops ++ [o]) j = if j = o.1 then o.2 (valO g0 ops j) else valO g0 ops j := by
  unfold valO
  rw [List.filter_append, List.foldl_append]
  by_cases c : j = o.1
  · rw [if_pos c, List.filter_cons, if_pos (by simp [c])]; rfl
  · rw [if_neg c, List.filter_cons, if_neg (by simp; exact fun z => c z.symm)]; rfl
theorem ordK_mem {k : κ} : ∀ {ks : List κ}, k ∈ ordK ks ↔ k ∈ ks := by
  intro ks
  generalize hz : ks.reverse = zs
  induction zs generalizing ks with
  | nil => obtain rfl : ks = [] := by simpa using congrArg List.reverse hz
           exact Iff.rfl
  | cons x zs ih =>
    obtain rfl : ks = zs.reverse ++ [x] := by simpa using congrArg List.reverse hz
    have ih := ih (ks := zs.reverse) (by simp)
    rw [ordK_snoc, List.mem_append, List.mem_singleton, ← ih]
    by_cases c : x ∈ ordK zs.reverse
    · rw [if_pos c]
      exact ⟨.inl, fun h => h.elim id fun e => e ▸ c⟩
    · rw [if_neg c, List.mem_append, List.mem_singleton]
theorem ordK_nd {ks : List κ} : (ordK ks).Nodup := by
  generalize hz : ks.reverse = zs
  induction zs generalizing ks with
  | nil => obtain rfl : ks = [] := by simpa using congrArg List.reverse hz
           exact List.nodup_nil
  | cons x zs ih =>
    obtain rfl : ks = zs.reverse ++ [x] := by simpa using congrArg List.reverse hz
    have ih := ih (ks := zs.reverse) (by simp)
    rw [ordK_snoc]
    split
    · exact ih
    · rename_i c
      rw [List.nodup_append]
      exact ⟨ih, by simp, fun a ma b mb e => c (by rw [List.mem_singleton] at mb; rw [← mb, ← e]; exact ma)⟩
theorem updK_new : ∀ {acc : List (κ × γ)}, (∀ p ∈ acc, p.1 ≠ k) → updK g0 f k acc = acc ++ [(k, f g0)]
  | [], _ => rfl
  | p :: r, h => by
    unfold updK
    rw [if_neg (h p (.head _)), updK_new fun q m => h q (.tail _ m)]; rfl
theorem updK_at {b : γ} {B : List (κ × γ)} : ∀ {A : List (κ × γ)}, (∀ p ∈ A, p.1 ≠ k) → updK g0 f k (A ++ (k, b) :: B) = A ++ (k, f b) :: B
  | [], _ => by show updK g0 f k ((k, b) :: B) = _; unfold updK; rw [if_pos rfl]; rfl
  | p :: r, h => by
    show updK g0 f k (p :: (r ++ (k, b) :: B)) = _
    unfold updK
    rw [if_neg (h p (.head _)), updK_at fun q m => h q (.tail _ m)]; rfl
theorem updK_map {v : κ → γ} : ∀ {ks : List κ}, ks.Nodup → k ∈ ks → updK g0 f k (ks.map fun j => (j, v j)) = ks.map fun j => (j, if j = k then f (v j) else v j)
  | j :: r, nd, m => by
    rw [List.map_cons, List.map_cons]
    unfold updK
    have nd := List.nodup_cons.mp nd
    by_cases c : j = k
    · rw [if_pos c, if_pos c, c]
      refine congrArg _ (List.map_congr_left fun i mi => ?_)
      rw [if_neg (fun z => nd.1 (by rw [c, ← z]; exact mi))]
    · rw [if_neg c, if_neg c, updK_map nd.2 (by rcases List.mem_cons.mp m with e | m; exact absurd e.symm c; exact m)]
theorem run_ops {ops : List (κ × (γ → γ))} : runK g0 ops [] = (ordK (ops.map Prod.fst)).map fun k => (k, valO g0 ops k) := by
  generalize hz : ops.reverse = zs
  induction zs generalizing ops with
  | nil => obtain rfl : ops = [] := by simpa using congrArg List.reverse hz
           rfl
  | cons o zs ih =>
    obtain rfl : ops = zs.reverse ++ [o] := by simpa using congrArg List.reverse hz
    have ih := ih (ops := zs.reverse) (by simp)
    rw [runK_snoc, ih, List.map_append]
    show _ = (ordK (zs.reverse.map Prod.fst ++ [o.1])).map _
    rw [ordK_snoc]
    by_cases c : o.1 ∈ ordK (zs.reverse.map Prod.fst)
    · rw [if_pos c, updK_map ordK_nd c]
      refine List.map_congr_left fun j mj => ?_
      rw [valO_snoc]
    · rw [if_neg c, List.map_append, updK_new]
      · refine congr (congrArg _ (List.map_congr_left fun j mj => ?_)) ?_
        · rw [valO_snoc, if_neg (c := j = o.1) (fun z => c (by rw [← z]; exact mj))]
        · have e0 : valO g0 zs.reverse o.1 = g0 := by
            unfold valO
            rw [List.filter_eq_nil_iff.mpr]
            · rfl
            · intro p mp
              simp
              exact fun z => c (ordK_mem.mpr (by rw [← z]; exact List.mem_map_of_mem mp))
          show [(o.1, o.2 g0)] = [(o.1, valO g0 (zs.reverse ++ [o]) o.1)]
          rw [valO_snoc, if_pos rfl, e0]
      · intro p mp
        obtain ⟨j, mj, rfl⟩ := List.mem_map.mp mp
        exact fun z => c (z ▸ mj)
theorem updK_has {acc : List (κ × γ)} : ∃ p ∈ updK g0 f k acc, p.1 = k := by
  induction acc with
  | nil => exact ⟨(k, f g0), .head _, rfl⟩
  | cons p r ih =>
    unfold updK
    split
    · exact ⟨_, .head _, rfl⟩
    · obtain ⟨q, m, e⟩ := ih
      exact ⟨q, .tail _ m, e⟩
theorem updK_kept {j : κ} {acc : List (κ × γ)} (h : ∃ p ∈ acc, p.1 = j) : ∃ p ∈ updK g0 f k acc, p.1 = j := by
  induction acc with
  | nil => obtain ⟨p, m, _⟩ := h; cases m
  | cons p r ih =>
    obtain ⟨q, m, e⟩ := h
    unfold updK
    split
    · rename_i c
      rcases List.mem_cons.mp m with rfl | m
      · exact ⟨_, .head _, by rw [← c]; exact e⟩
      · exact ⟨q, .tail _ m, e⟩
    · rcases List.mem_cons.mp m with rfl | m
      · exact ⟨q, .head _, e⟩
      · obtain ⟨q', m', e'⟩ := ih ⟨q, m, e⟩
        exact ⟨q', .tail _ m', e'⟩
theorem updK_len : ∀ {acc : List (κ × γ)}, (updK g0 f k acc).length ≤ acc.length + 1
  | [] => Nat.le_refl _
  | p :: r => by
    unfold updK
    split
    · simp
    · have := updK_len (acc := r); simp; omega
theorem runK_len {ops : List (κ × (γ → γ))} : (runK g0 ops []).length ≤ ops.length := by
  generalize hz : ops.reverse = zs
  induction zs generalizing ops with
  | nil => obtain rfl : ops = [] := by simpa using congrArg List.reverse hz
           exact Nat.le_refl _
  | cons o zs ih =>
    obtain rfl : ops = zs.reverse ++ [o] := by simpa using congrArg List.reverse hz
    have ih := ih (ops := zs.reverse) (by simp)
    have := updK_len (g0 := g0) (f := o.2) (k := o.1) (acc := runK g0 zs.reverse [])
    rw [runK_snoc, List.length_append, List.length_singleton]
    omega
end
section
variable {κ γ ι : Type} [DecidableEq κ] (emb : κ → ι) (gV : γ → List V)
/-- the dict's entries, the lists' cells -/
def kvsP (ps : List (Addr × κ × γ)) : List (ι × V) := ps.map fun p => (emb p.2.1, V.ref p.1)
def celP (ps : List (Addr × κ × γ)) : Cells := ps.map fun p => (p.1, HO.lst (gV p.2.2))
end
section
variable {κ γ : Type} [DecidableEq κ] {emb : κ → List Key} {gV : γ → List V} {g0 : γ} {k : κ}
theorem split_key (k : κ) : ∀ (ps : List (Addr × κ × γ)), (∀ p ∈ ps, p.2.1 ≠ k) ∨ ∃ A q b B, ps = A ++ (q, k, b) :: B ∧ ∀ p ∈ A, p.2.1 ≠ k
  | [] => .inl fun _ m => nomatch m
  | p :: r => by
    by_cases c : p.2.1 = k
    · exact .inr ⟨[], p.1, p.2.2, r, by rw [← c]; rfl, fun _ m => nomatch m⟩
    · rcases split_key k r with h | ⟨A, q, b, B, e, h⟩
      · exact .inl fun x m => (List.mem_cons.mp m).elim (fun z => z ▸ c) (h x)
      · exact .inr ⟨p :: A, q, b, B, by rw [e]; rfl, fun x m => (List.mem_cons.mp m).elim (fun z => z ▸ c) (h x)⟩
theorem valV_kvsP0 {ι : Type} [DecidableEq ι] {emb : κ → ι} (inj : ∀ a b, emb a = emb b → a = b) : ∀ {ps : List (Addr × κ × γ)}, (∀ p ∈ ps, p.2.1 ≠ k) → valV (kvsP emb ps) (emb k) = none
  | [], _ => rfl
  | p :: r, h => by
    show valV ((emb p.2.1, V.ref p.1) :: kvsP emb r) (emb k) = none
    rw [valV_neg (fun z => h p (.head _) (inj _ _ z)), valV_kvsP0 inj fun x m => h x (.tail _ m)]
theorem valV_kvsP1 {ι : Type} [DecidableEq ι] {emb : κ → ι} (inj : ∀ a b, emb a = emb b → a = b) {q : Addr} {b : γ} {B : List (Addr × κ × γ)} : ∀ {A : List (Addr × κ × γ)}, (∀ p ∈ A, p.2.1 ≠ k) → valV (kvsP emb (A ++ (q, k, b) :: B)) (emb k) = some (.ref q)
  | [], _ => by show valV ((emb k, V.ref q) :: kvsP emb B) (emb k) = _; rw [valV_pos rfl]
  | p :: r, h => by
    show valV ((emb p.2.1, V.ref p.1) :: kvsP emb (r ++ (q, k, b) :: B)) (emb k) = _
    rw [valV_neg (fun z => h p (.head _) (inj _ _ z)), valV_kvsP1 inj fun x m => h x (.tail _ m)]
theorem celP_perm {A B : List (Addr × κ × γ)} {q : Addr} {b : γ} {R : Cells} : ((q, HO.lst (gV b)) :: (celP gV (A ++ B) ++ R)).Perm (celP gV (A ++ (q, k, b) :: B) ++ R) := by
  unfold celP
  rw [List.map_append, List.map_append, List.map_cons, ← List.cons_append]
  exact List.Perm.append_right R (List.perm_middle.symm)
theorem Sta.freezeP {H : Hp} {R : Cells} : ∀ {ps : List (Addr × κ × γ)} {F : Hp}, Sta F (celP gV ps ++ R) H → ∃ F', Same F F' ∧ Sta F' R H ∧ ∀ p ∈ ps, F' p.1 = some (.lst (gV p.2.2))
  | [], F, st => ⟨F, .refl _, st, fun _ m => nomatch m⟩
  | p :: r, F, st => by
    obtain ⟨F1, s1, e1, st1⟩ := Sta.freeze (a := p.1) (o := .lst (gV p.2.2)) (R := celP gV r ++ R) st .rfl
    obtain ⟨F2, s2, st2, h⟩ := Sta.freezeP st1
    exact ⟨F2, s1.trans s2, st2, fun x m => (List.mem_cons.mp m).elim (fun z => by rw [z]; exact s2 _ _ e1) (h x)⟩
/-- setdefault of a key with a new list -/
theorem go_setd {F H : Hp} {R : Cells} {ps : List (Addr × κ × γ)} {q0 fd t : Addr} {Q : VK} (inj : ∀ a b, emb a = emb b → a = b) (st : Sta F ((q0, .lst (gV g0)) :: (fd, .dT (kvsP emb ps)) :: (celP gV ps ++ R)) H) (eb : F t = some (.tup ((emb k).map kV))) (hl : ps.length ≤ 10000)
    (h : ∀ A q b B H', (∀ f, updK g0 f k (ps.map Prod.snd) = A.map Prod.snd ++ (k, f b) :: B.map Prod.snd) → (A ++ B).length ≤ ps.length → (∀ x ∈ A ++ B, x ∈ ps) → Sta F ((q, .lst (gV b)) :: (fd, .dT (kvsP emb (A ++ (q, k, b) :: B))) :: (celP gV (A ++ B) ++ R)) H' → Q (.ref q) H') : SdX fd (.ref t) (.ref q0) H Q := by
  have ln : (kvsP emb ps).length ≤ 100000 := by unfold kvsP; rw [List.length_map]; omega
  rcases split_key k ps with hn | ⟨A, q, b, B, e, hn⟩
  · refine go_sdNew (emb k) st (.swap ..) eb ln (valV_kvsP0 inj hn) fun H' st' => ?_
    refine h ps q0 g0 [] H' (fun f => ?_) (by rw [List.append_nil]; exact Nat.le_refl _) (fun x m => by rwa [List.append_nil] at m) ?_
    · rw [updK_new]; rfl
      intro p mp
      obtain ⟨x, mx, rfl⟩ := List.mem_map.mp mp
      exact hn x mx
    · rw [List.append_nil]
      have : kvsP emb (ps ++ [(q0, k, g0)]) = kvsP emb ps ++ [(emb k, V.ref q0)] := by unfold kvsP; rw [List.map_append]; rfl
      rw [this]
      exact st'.perm (.swap ..)
  · refine go_sdThere (emb k) st (.swap ..) eb ln (v := .ref q) (by rw [e]; exact valV_kvsP1 inj hn) ?_
    refine h A q b B H (fun f => ?_) (by rw [e, List.length_append, List.length_append, List.length_cons]; omega) (fun x m => by rw [e]; rcases List.mem_append.mp m with m | m; exact List.mem_append_left _ m; exact List.mem_append_right _ (.tail _ m)) ?_
    · rw [e, List.map_append, List.map_cons, updK_at]
      intro p mp
      obtain ⟨x, mx, rfl⟩ := List.mem_map.mp mp
      exact hn x mx
    · have st := st.tail
      rw [e] at st
      exact st.perm ((List.Perm.cons _ (celP_perm (k := k)).symm).trans (.swap ..))
/-- a key's list, found -/
theorem find_key {ps : List (Addr × κ × γ)} (h : ∃ p ∈ ps.map Prod.snd, p.1 = k) : ∃ A q b B, ps = A ++ (q, k, b) :: B ∧ ∀ p ∈ A, p.2.1 ≠ k := by
  rcases split_key k ps with hn | h2
  · obtain ⟨p, m, e⟩ := h
    obtain ⟨x, mx, rfl⟩ := List.mem_map.mp m
    exact absurd e (hn x mx)
  · exact h2
theorem updK_ps {f : γ → γ} {A B : List (Addr × κ × γ)} {q : Addr} {b : γ} (h : ∀ p ∈ A, p.2.1 ≠ k) : updK g0 f k ((A ++ (q, k, b) :: B).map Prod.snd) = (A ++ (q, k, f b) :: B).map Prod.snd := by
  rw [List.map_append, List.map_append, List.map_cons, List.map_cons]
  refine updK_at fun p mp => ?_
  obtain ⟨x, mx, rfl⟩ := List.mem_map.mp mp
  exact h x mx
theorem Sta.unpack {F H : Hp} {R : Cells} {A B : List (Addr × κ × γ)} {q fd : Addr} {b : γ} (st : Sta F ((fd, .dT (kvsP emb (A ++ (q, k, b) :: B))) :: (celP gV (A ++ (q, k, b) :: B) ++ R)) H) :
    Sta F ((q, .lst (gV b)) :: (fd, .dT (kvsP emb (A ++ (q, k, b) :: B))) :: (celP gV (A ++ B) ++ R)) H :=
  st.perm ((List.Perm.cons _ (celP_perm (k := k)).symm).trans (.swap ..))
theorem go_xPT {K : PySem.W.Frag} {H : Hp} {Q : VK} {A B : List (Addr × κ × γ)} {q fd t : Addr} {b : γ} (inj : ∀ a b, emb a = emb b → a = b) (h : ∀ p ∈ A, p.2.1 ≠ k) (e : H fd = some (.dT (kvsP emb (A ++ (q, k, b) :: B)))) (eb : H t = some (.tup ((emb k).map kV))) (hq : Q (.ref q) H) : rIxX K (.ref fd) (.ref t) H Q :=
  .inr (.inr (.inr ⟨fd, .ref q, rfl, by have := DGet.t (k := emb k) e eb; rwa [valV_kvsP1 inj h] at this, hq⟩))
/-- behind the changes of its list -/
theorem Sta.repack {F H : Hp} {R : Cells} {A B : List (Addr × κ × γ)} {q fd : Addr} {b b' : γ} (st : Sta F ((q, .lst (gV b')) :: (fd, .dT (kvsP emb (A ++ (q, k, b) :: B))) :: (celP gV (A ++ B) ++ R)) H) :
    Sta F ((fd, .dT (kvsP emb (A ++ (q, k, b') :: B))) :: (celP gV (A ++ (q, k, b') :: B) ++ R)) H := by
  have e : kvsP emb (A ++ (q, k, b) :: B) = kvsP emb (A ++ (q, k, b') :: B) := by unfold kvsP; rw [List.map_append, List.map_append]; rfl
  rw [e] at st
  exact st.perm ((List.Perm.swap ..).trans (List.Perm.cons _ celP_perm))
end

section
variable {κ γ : Type} [DecidableEq κ] {emb : κ → Key} {gV : γ → List V} {g0 : γ} {k : κ}
/-- the same, keys that are numbers or texts -/
theorem go_setdK {F H : Hp} {R : Cells} {ps : List (Addr × κ × γ)} {q0 fd : Addr} {Q : VK} (inj : ∀ a b, emb a = emb b → a = b) (st : Sta F ((q0, .lst (gV g0)) :: (fd, .dK (kvsP emb ps)) :: (celP gV ps ++ R)) H) (hl : ps.length ≤ 10000)
    (h : ∀ A q b B H', (∀ f, updK g0 f k (ps.map Prod.snd) = A.map Prod.snd ++ (k, f b) :: B.map Prod.snd) → (A ++ B).length ≤ ps.length → Sta F ((q, .lst (gV b)) :: (fd, .dK (kvsP emb (A ++ (q, k, b) :: B))) :: (celP gV (A ++ B) ++ R)) H' → Q (.ref q) H') : SdX fd (kV (emb k)) (.ref q0) H Q := by
  have ln : (kvsP emb ps).length ≤ 100000 := by unfold kvsP; rw [List.length_map]; omega
  rcases split_key k ps with hn | ⟨A, q, b, B, e, hn⟩
  · refine go_sdNewK (emb k) st (.swap ..) ln (valV_kvsP0 inj hn) fun H' st' => ?_
    refine h ps q0 g0 [] H' (fun f => ?_) (by rw [List.append_nil]; exact Nat.le_refl _) ?_
    · rw [updK_new]; rfl
      intro p mp
      obtain ⟨x, mx, rfl⟩ := List.mem_map.mp mp
      exact hn x mx
    · rw [List.append_nil]
      have : kvsP emb (ps ++ [(q0, k, g0)]) = kvsP emb ps ++ [(emb k, V.ref q0)] := by unfold kvsP; rw [List.map_append]; rfl
      rw [this]
      exact st'.perm (.swap ..)
  · refine go_sdThereK (emb k) st (.swap ..) ln (v := .ref q) (by rw [e]; exact valV_kvsP1 inj hn) ?_
    refine h A q b B H (fun f => ?_) (by rw [e, List.length_append, List.length_append, List.length_cons]; omega) ?_
    · rw [e, List.map_append, List.map_cons, updK_at]
      intro p mp
      obtain ⟨x, mx, rfl⟩ := List.mem_map.mp mp
      exact hn x mx
    · have st := st.tail
      rw [e] at st
      exact st.perm ((List.Perm.cons _ (celP_perm (k := k)).symm).trans (.swap ..))
theorem Sta.repackK {F H : Hp} {R : Cells} {A B : List (Addr × κ × γ)} {q fd : Addr} {b b' : γ} (st : Sta F ((q, .lst (gV b')) :: (fd, .dK (kvsP emb (A ++ (q, k, b) :: B))) :: (celP gV (A ++ B) ++ R)) H) :
    Sta F ((fd, .dK (kvsP emb (A ++ (q, k, b') :: B))) :: (celP gV (A ++ (q, k, b') :: B) ++ R)) H := by
  have e : kvsP emb (A ++ (q, k, b) :: B) = kvsP emb (A ++ (q, k, b') :: B) := by unfold kvsP; rw [List.map_append, List.map_append]; rfl
  rw [e] at st
  exact st.perm ((List.Perm.swap ..).trans (List.Perm.cons _ celP_perm))
end


abbrev PS := List (SA × Str × SV)
abbrev kvS (ps : PS) : List (Key × V) := ps.map fun p => ((Sum.inr p.2.1 : Key), V.ref p.1.p)
def clS (K : PySem.W.Frag) (ps : PS) : Cells := ps.flatMap fun p => stC K p.1 p.2.2
theorem splitS (k : Str) : ∀ (ps : PS), (∀ p ∈ ps, p.2.1 ≠ k) ∨ ∃ A a b B, ps = A ++ (a, k, b) :: B ∧ ∀ p ∈ A, p.2.1 ≠ k
  | [] => .inl fun _ m => nomatch m
  | p :: r => by
    by_cases c : p.2.1 = k
    · exact .inr ⟨[], p.1, p.2.2, r, by rw [← c]; rfl, fun _ m => nomatch m⟩
    · rcases splitS k r with h | ⟨A, a, b, B, e, h⟩
      · exact .inl fun x m => (List.mem_cons.mp m).elim (fun z => z ▸ c) (h x)
      · exact .inr ⟨p :: A, a, b, B, by rw [e]; rfl, fun x m => (List.mem_cons.mp m).elim (fun z => z ▸ c) (h x)⟩
theorem valV_kvS0 {k : Str} : ∀ {ps : PS}, (∀ p ∈ ps, p.2.1 ≠ k) → valV (kvS ps) (Sum.inr k) = none
  | [], _ => rfl
  | p :: r, h => by
    show valV (((Sum.inr p.2.1 : Key), V.ref p.1.p) :: kvS r) (Sum.inr k) = none
    rw [valV_neg (fun z => h p (.head _) (Sum.inr.inj z)), valV_kvS0 fun x m => h x (.tail _ m)]
theorem valV_kvS1 {k : Str} {a : SA} {b : SV} {B : PS} : ∀ {A : PS}, (∀ p ∈ A, p.2.1 ≠ k) → valV (kvS (A ++ (a, k, b) :: B)) (Sum.inr k) = some (.ref a.p)
  | [], _ => by show valV (((Sum.inr k : Key), V.ref a.p) :: kvS B) (Sum.inr k) = _; rw [valV_pos rfl]
  | p :: r, h => by
    show valV (((Sum.inr p.2.1 : Key), V.ref p.1.p) :: kvS (r ++ (a, k, b) :: B)) (Sum.inr k) = _
    rw [valV_neg (fun z => h p (.head _) (Sum.inr.inj z)), valV_kvS1 fun x m => h x (.tail _ m)]
theorem clS_perm {K : PySem.W.Frag} {A B : PS} {a : SA} {k : Str} {b : SV} {R : Cells} : (stC K a b ++ (clS K (A ++ B) ++ R)).Perm (clS K (A ++ (a, k, b) :: B) ++ R) := by
  unfold clS
  rw [List.flatMap_append, List.flatMap_append, List.flatMap_cons, ← List.append_assoc]
  refine List.Perm.append_right R ?_
  show (stC K a b ++ (List.flatMap (fun p => stC K p.1 p.2.2) A ++ List.flatMap (fun p => stC K p.1 p.2.2) B)).Perm _
  rw [← List.append_assoc, ← List.append_assoc]
  exact List.Perm.append_right _ List.perm_append_comm
theorem go_setdS {K : PySem.W.Frag} {F H : Hp} {R : Cells} {ps : PS} {a0 : SA} {fd : Addr} {k : Str} {Q : VK} (st : Sta F (stC K a0 SV.zero ++ ((fd, .dK (kvS ps)) :: (clS K ps ++ R))) H) (hl : ps.length ≤ 10000)
    (h : ∀ A a b B H', (∀ f, updK SV.zero f k (ps.map Prod.snd) = (A ++ (a, k, f b) :: B).map Prod.snd) → (A ++ B).length ≤ ps.length → Sta F (stC K a b ++ ((fd, .dK (kvS (A ++ (a, k, b) :: B))) :: (clS K (A ++ B) ++ R))) H' → Q (.ref a.p) H') : SdX fd (.str k) (.ref a0.p) H Q := by
  have ln : (kvS ps).length ≤ 100000 := by unfold kvS; rw [List.length_map]; omega
  rcases splitS k ps with hn | ⟨A, a, b, B, e, hn⟩
  · refine go_sdNewK (Sum.inr k) st List.perm_middle ln (valV_kvS0 hn) fun H' st' => ?_
    refine h ps a0 SV.zero [] H' (fun f => ?_) (by rw [List.append_nil]; exact Nat.le_refl _) ?_
    · rw [updK_new, List.map_append]; rfl
      intro p mp
      obtain ⟨x, mx, rfl⟩ := List.mem_map.mp mp
      exact hn x mx
    · rw [List.append_nil]
      have : kvS (ps ++ [(a0, k, SV.zero)]) = kvS ps ++ [((Sum.inr k : Key), V.ref a0.p)] := by unfold kvS; rw [List.map_append]; rfl
      rw [this]
      exact st'.perm List.perm_middle.symm
  · refine go_sdThereK (Sum.inr k) st List.perm_middle ln (v := .ref a.p) (by rw [e]; exact valV_kvS1 hn) ?_
    refine h A a b B H (fun f => ?_) (by rw [e, List.length_append, List.length_append, List.length_cons]; omega) ?_
    · rw [e, List.map_append, List.map_cons, List.map_append, List.map_cons, updK_at]
      intro p mp
      obtain ⟨x, mx, rfl⟩ := List.mem_map.mp mp
      exact hn x mx
    · have st := (Sta.perm st List.perm_append_comm).left
      rw [e] at st
      exact st.perm ((List.Perm.cons _ (clS_perm (k := k)).symm).trans List.perm_middle.symm)
theorem _root_.L2.A.Sta.repackS {K : PySem.W.Frag} {F H : Hp} {R : Cells} {A B : PS} {a : SA} {k : Str} {fd : Addr} {b b' : SV} (st : Sta F (stC K a b' ++ ((fd, .dK (kvS (A ++ (a, k, b) :: B))) :: (clS K (A ++ B) ++ R))) H) :
    Sta F ((fd, .dK (kvS (A ++ (a, k, b') :: B))) :: (clS K (A ++ (a, k, b') :: B) ++ R)) H := by
  have e : kvS (A ++ (a, k, b) :: B) = kvS (A ++ (a, k, b') :: B) := by unfold kvS; rw [List.map_append, List.map_append]; rfl
  rw [e] at st
  exact st.perm (List.perm_middle.trans (.cons _ clS_perm))
theorem _root_.L2.A.Sta.stdS {K : PySem.W.Frag} {F H : Hp} {R : Cells} {A B : PS} {a : SA} {k : Str} {fd : Addr} {b : SV} {u : HO} (st : Sta F ((fd, u) :: (clS K (A ++ (a, k, b) :: B) ++ R)) H) : StH K H a b :=
  Sta.std (R := (fd, u) :: (clS K (A ++ B) ++ R)) (st.perm ((List.Perm.cons _ (clS_perm (k := k)).symm).trans List.perm_middle.symm))
/-- what each game tells -/
def opsG (p0 p1 p2 : Int) (gs : List LG) : List (Str × (SV → SV)) := gs.flatMap fun g => [(g.a, SV.take p0 p1 p2 g.r g.s g.n g.m), (g.b, SV.take p0 p1 p2 g.s g.r g.m g.n)]
def tabG (p0 p1 p2 : Int) (gs : List LG) : List (Str × SV) := runK SV.zero (opsG p0 p1 p2 gs) []
def hasG (p0 p1 p2 : Int) (gs : List LG) (z : Str) : SV := valO SV.zero (opsG p0 p1 p2 gs) z
theorem opsG_snoc {p0 p1 p2 : Int} {gs : List LG} {g : LG} : opsG p0 p1 p2 (gs ++ [g]) = opsG p0 p1 p2 gs ++ [(g.a, SV.take p0 p1 p2 g.r g.s g.n g.m)] ++ [(g.b, SV.take p0 p1 p2 g.s g.r g.m g.n)] := by
  unfold opsG
  rw [List.flatMap_append, List.append_assoc]; rfl
theorem tabG_snoc {p0 p1 p2 : Int} {gs : List LG} {g : LG} : tabG p0 p1 p2 (gs ++ [g]) = updK SV.zero (SV.take p0 p1 p2 g.s g.r g.m g.n) g.b (updK SV.zero (SV.take p0 p1 p2 g.r g.s g.n g.m) g.a (tabG p0 p1 p2 gs)) := by
  unfold tabG
  rw [opsG_snoc, runK_snoc, runK_snoc]
def inG (gs : List LG) (z : Str) : Prop := ∃ g ∈ gs, z = g.a ∨ z = g.b
theorem keysG {p0 p1 p2 : Int} {gs : List LG} {z : Str} : z ∈ (opsG p0 p1 p2 gs).map Prod.fst ↔ inG gs z := by
  unfold opsG inG
  rw [List.map_flatMap, List.mem_flatMap]
  constructor
  · rintro ⟨g, mg, m⟩
    simp only [List.map_cons, List.map_nil, List.mem_cons, List.not_mem_nil, or_false] at m
    exact ⟨g, mg, m⟩
  · rintro ⟨g, mg, m⟩
    exact ⟨g, mg, by simp only [List.map_cons, List.map_nil, List.mem_cons, List.not_mem_nil, or_false]; exact m⟩
theorem tabG_eq {p0 p1 p2 : Int} {gs : List LG} : tabG p0 p1 p2 gs = (ordK ((opsG p0 p1 p2 gs).map Prod.fst)).map fun z => (z, hasG p0 p1 p2 gs z) := run_ops
theorem tabG_mem {p0 p1 p2 : Int} {gs : List LG} {z : Str} {x : SV} (h : (z, x) ∈ tabG p0 p1 p2 gs) : x = hasG p0 p1 p2 gs z ∧ inG gs z := by
  rw [tabG_eq] at h
  obtain ⟨y, my, e⟩ := List.mem_map.mp h
  cases e
  exact ⟨rfl, keysG.mp (ordK_mem.mp my)⟩
theorem tabG_in {p0 p1 p2 : Int} {gs : List LG} {z : Str} (h : inG gs z) : (z, hasG p0 p1 p2 gs z) ∈ tabG p0 p1 p2 gs := by
  rw [tabG_eq]
  exact List.mem_map.mpr ⟨z, ordK_mem.mpr (keysG.mpr h), rfl⟩
theorem tabG_len {p0 p1 p2 : Int} {gs : List LG} : (tabG p0 p1 p2 gs).length ≤ 2 * gs.length := by
  unfold tabG
  refine Nat.le_trans runK_len (Nat.le_of_eq ?_)
  unfold opsG
  induction gs with
  | nil => rfl
  | cons g r ih => rw [List.flatMap_cons, List.length_append, ih]; simp; omega
theorem hasG_snoc {p0 p1 p2 : Int} {gs : List LG} {g : LG} {z : Str} : hasG p0 p1 p2 (gs ++ [g]) z = (if z = g.b then SV.take p0 p1 p2 g.s g.r g.m g.n else id) ((if z = g.a then SV.take p0 p1 p2 g.r g.s g.n g.m else id) (hasG p0 p1 p2 gs z)) := by
  unfold hasG
  rw [opsG_snoc, valO_snoc, valO_snoc]
  dsimp only
  by_cases c1 : z = g.b
  · rw [if_pos c1, if_pos c1]
    by_cases c2 : z = g.a
    · rw [if_pos c2, if_pos c2]
    · rw [if_neg c2, if_neg c2]; rfl
  · rw [if_neg c1, if_neg c1]
    by_cases c2 : z = g.a
    · rw [if_pos c2, if_pos c2]; rfl
    · rw [if_neg c2, if_neg c2]; rfl
theorem rev_ind {α : Type} {P : List α → Prop} (h0 : P []) (hs : ∀ xs x, P xs → P (xs ++ [x])) (xs : List α) : P xs := by
  generalize hz : xs.reverse = zs
  induction zs generalizing xs with
  | nil => obtain rfl : xs = [] := by simpa using congrArg List.reverse hz
           exact h0
  | cons x zs ih =>
    obtain rfl : xs = zs.reverse ++ [x] := by simpa using congrArg List.reverse hz
    exact hs _ _ (ih _ (by simp))
theorem hasG_ok {p0 p1 p2 : Int} {ns : List Str} {z : Str} : ∀ gs : List LG, (∀ g ∈ gs, LGok ns g) → (0 ≤ (hasG p0 p1 p2 gs z).r0 ∧ (hasG p0 p1 p2 gs z).r0 ≤ 9999 * (gs.length : Int)) ∧ (0 ≤ (hasG p0 p1 p2 gs z).r1 ∧ (hasG p0 p1 p2 gs z).r1 ≤ 9999 * (gs.length : Int)) ∧ (0 ≤ (hasG p0 p1 p2 gs z).b0 ∧ (hasG p0 p1 p2 gs z).b0 ≤ 9999 * (gs.length : Int)) ∧ (0 ≤ (hasG p0 p1 p2 gs z).b1 ∧ (hasG p0 p1 p2 gs z).b1 ≤ 9999 * (gs.length : Int)) ∧ (inG gs z → 1 ≤ (hasG p0 p1 p2 gs z).b0 ∧ 1 ≤ (hasG p0 p1 p2 gs z).b1) := by
  refine rev_ind (fun _ => ⟨⟨Int.le_refl _, Int.le_refl _⟩, ⟨Int.le_refl _, Int.le_refl _⟩, ⟨Int.le_refl _, Int.le_refl _⟩, ⟨Int.le_refl _, Int.le_refl _⟩, fun ⟨g, m, _⟩ => by cases m⟩) fun gs g ih hg => ?_
  obtain ⟨h1, h2, h3, h4, h5⟩ := ih fun x m => hg x (List.mem_append_left _ m)
  have k := hg g (by simp)
  have kr := k.r
  have ks := k.s
  have kn := k.n
  have km := k.m
  have inn : inG (gs ++ [g]) z → inG gs z ∨ z = g.a ∨ z = g.b := fun ⟨x, m, e⟩ => by
    rcases List.mem_append.mp m with m | m
    · exact .inl ⟨x, m, e⟩
    · rw [List.mem_singleton.mp m] at e; exact .inr e
  rw [hasG_snoc, List.length_append, List.length_singleton]
  generalize hasG p0 p1 p2 gs z = x at *
  by_cases c1 : z = g.b
  · have c2 : z ≠ g.a := fun e => k.ne (e.symm.trans c1)
    rw [if_pos c1, if_neg c2]
    unfold SV.take
    dsimp only [id]
    exact ⟨by omega, by omega, by omega, by omega, fun _ => by omega⟩
  · rw [if_neg c1]
    by_cases c2 : z = g.a
    · rw [if_pos c2]
      unfold SV.take
      dsimp only [id]
      exact ⟨by omega, by omega, by omega, by omega, fun _ => by omega⟩
    · rw [if_neg c2]
      dsimp only [id]
      exact ⟨by omega, by omega, by omega, by omega, fun h => h5 ((inn h).resolve_right fun e => e.elim c2 c1)⟩
theorem hasG_SV {p0 p1 p2 : Int} {ns : List Str} {z : Str} {gs : List LG} (h : ∀ g ∈ gs, LGok ns g) (hz : inG gs z) : SVok (gs.length : Int) (hasG p0 p1 p2 gs z) := by
  obtain ⟨h1, h2, h3, h4, h5⟩ := hasG_ok (p0 := p0) (p1 := p1) (p2 := p2) (z := z) gs h
  have := h5 hz
  exact ⟨h1, h2, by omega, by omega⟩
/-- what doesn't hang on the points -/
theorem hasG_pts {p0 p1 p2 q0 q1 q2 : Int} {z : Str} : ∀ gs : List LG, (hasG p0 p1 p2 gs z).r0 = (hasG q0 q1 q2 gs z).r0 ∧ (hasG p0 p1 p2 gs z).r1 = (hasG q0 q1 q2 gs z).r1 ∧ (hasG p0 p1 p2 gs z).b0 = (hasG q0 q1 q2 gs z).b0 ∧ (hasG p0 p1 p2 gs z).b1 = (hasG q0 q1 q2 gs z).b1 := by
  refine rev_ind ⟨rfl, rfl, rfl, rfl⟩ fun gs g ih => ?_
  rw [hasG_snoc, hasG_snoc]
  generalize hasG p0 p1 p2 gs z = x at *
  generalize hasG q0 q1 q2 gs z = y at *
  obtain ⟨i1, i2, i3, i4⟩ := ih
  have tk : ∀ (r s n m : Int) (x y : SV), (x.r0 = y.r0 ∧ x.r1 = y.r1 ∧ x.b0 = y.b0 ∧ x.b1 = y.b1) → ((x.take p0 p1 p2 r s n m).r0 = (y.take q0 q1 q2 r s n m).r0 ∧ (x.take p0 p1 p2 r s n m).r1 = (y.take q0 q1 q2 r s n m).r1 ∧ (x.take p0 p1 p2 r s n m).b0 = (y.take q0 q1 q2 r s n m).b0 ∧ (x.take p0 p1 p2 r s n m).b1 = (y.take q0 q1 q2 r s n m).b1) := fun r s n m x y h => by
    unfold SV.take
    dsimp only
    rw [h.1, h.2.1, h.2.2.1, h.2.2.2]
    exact ⟨rfl, rfl, rfl, rfl⟩
  have i0 : x.r0 = y.r0 ∧ x.r1 = y.r1 ∧ x.b0 = y.b0 ∧ x.b1 = y.b1 := ⟨i1, i2, i3, i4⟩
  by_cases c1 : z = g.b
  · simp only [if_pos c1]
    by_cases c2 : z = g.a
    · simp only [if_pos c2]; exact tk _ _ _ _ _ _ (tk _ _ _ _ _ _ i0)
    · simp only [if_neg c2]; exact tk _ _ _ _ _ _ i0
  · simp only [if_neg c1]
    by_cases c2 : z = g.a
    · simp only [if_pos c2]; exact tk _ _ _ _ _ _ i0
    · simp only [if_neg c2]; exact i0
theorem rate_pts {p0 p1 p2 q0 q1 q2 : Int} {z : Str} {gs : List LG} : rateL (hasG p0 p1 p2 gs z) = rateL (hasG q0 q1 q2 gs z) := by
  obtain ⟨i1, i2, i3, i4⟩ := hasG_pts (p0 := p0) (p1 := p1) (p2 := p2) (q0 := q0) (q1 := q1) (q2 := q2) (z := z) gs
  unfold rateL SV.by_ SV.num SV.parts
  rw [i1, i2, i3, i4]

/-! ### standings -/
abbrev s_standings : Stmt := top 4
abbrev N_standings : List Str := ["points", "games", "found", "one", "r", "n", "other", "s", "m"]
theorem sc_standings : FnScope N_standings ["points", "games"] (defScope s_standings) := ⟨rfl, rfl, rfl, by decide +kernel, rfl, by decide +kernel, by decide +kernel⟩
def pr_standings (K : PySem.W.Frag) : V → V → Hp → VK → XK → Prop := fun a0 a1 H Q E => ∃ (F : Hp) (R : Cells) (pt gl : Addr) (p0 p1 p2 : Int) (gs : GS), a0 = .ref pt ∧ a1 = .ref gl ∧ F pt = some (.tup [.int p0, .int p1, .int p2]) ∧ F gl = some (.lst (lgL gs)) ∧ GF F gs ∧ gs.length ≤ 100 ∧ Sta F R H ∧ ∀ (fd : Addr) (ps : PS) F' H', ps.map Prod.snd = tabG p0 p1 p2 (gv gs) → Same F F' → Sta F' ((fd, .dK (kvS ps)) :: (clS K ps ++ R)) H' → Q (.ref fd) H' 
abbrev sp_standings (K : PySem.W.Frag) : Sp := Sp2 (pr_standings K)
theorem ok_standings {P : Program} {w : World} {K : PySem.W.Frag} {mg : Str → Option Value} {base : Heap} {f : Addr} {fd : FuncData} (F : FunD K "standings" "standings" (defArgs s_standings) (defBody s_standings) (defScope s_standings) [] [] f fd) (T : Txt K mg) (m_Standing_take_game : MtD P w K mg base CX0 1 (He.ga K "Standing") "take_game" ["self", "points", "runs", "balls"] [] (sp_Standing_take_game K)) (k_Standing : MkD P w K mg base CX0 1 (He.ga K "Standing") "Standing" ["self"] [] (sp_Standing_init K)) : FnOk P w K mg base CX0 3 f fd ["points", "games"] (sp_standings K) := by
  refine F.ok sc_standings (fun vs H Q E h => len2 h) (fun cdv A outer s H vs Q E hr h => ?_)
  obtain ⟨a0, a1, rfl, h⟩ := h
  have hu := hu_of hr
  refine ⟨_, PSs.nox ((pss_cons (ps_set (i := 2) sc_standings.nd rfl (by first | exact Or.inl rfl | exact Or.inr rfl) pe_dnewK)
      (pss_cons (ps_for PassesOwn.never rfl (pi_X (pv 1)) (pg_tup (n := 6) rfl (pgs_cons (pg_name (i := 3) sc_standings.nd rfl (by first | exact Or.inl rfl | exact Or.inr rfl)) (pgs_cons (pg_name (i := 4) sc_standings.nd rfl (by first | exact Or.inl rfl | exact Or.inr rfl)) (pgs_cons (pg_name (i := 5) sc_standings.nd rfl (by first | exact Or.inl rfl | exact Or.inr rfl)) (pgs_cons (pg_name (i := 6) sc_standings.nd rfl (by first | exact Or.inl rfl | exact Or.inr rfl)) (pgs_cons (pg_name (i := 7) sc_standings.nd rfl (by first | exact Or.inl rfl | exact Or.inr rfl)) (pgs_cons (pg_name (i := 8) sc_standings.nd rfl (by first | exact Or.inl rfl | exact Or.inr rfl)) pgs_nil))))))) (pss_cons (ps_expr (pe_mth m_Standing_take_game (hr.mono (by decide)) pass0 (pe_dsetX hu (pv 2) (pv 3) (pe_mke0 k_Standing (hr.mono (by decide)) rfl pass0) ⟨rfl, rfl, rfl, rfl⟩) (pa_cons (pv 0) (pa_cons (pe_lst (pa_cons (pv 4) (pa_cons (pv 7) pa_nil))) (pa_cons (pe_lst (pa_cons (pv 5) (pa_cons (pv 8) pa_nil))) pa_nil)))))
      (pss_one (ps_expr (pe_mth m_Standing_take_game (hr.mono (by decide)) pass0 (pe_dsetX hu (pv 2) (pv 6) (pe_mke0 k_Standing (hr.mono (by decide)) rfl pass0) ⟨rfl, rfl, rfl, rfl⟩) (pa_cons (pv 0) (pa_cons (pe_lst (pa_cons (pv 7) (pa_cons (pv 4) pa_nil))) (pa_cons (pe_lst (pa_cons (pv 8) (pa_cons (pv 5) pa_nil))) pa_nil))))))))
      (pss_one (ps_ret (pv 2)))))), ?_⟩
  have c_Standing := T.cls_Standing
  refine go_start (σ := [some a0, some a1, none, none, none, none, none, none, none]) rfl ?_
  try dsimp only [cxOf, Cx.nox, Cx.wish, Cx.tr, Cx.suite]
  obtain ⟨F, R, pt, gl, p0, p1, p2, gs, rfl, rfl, hp, hg, gf, lg, st, hq⟩ := h
  walk_at "*"
  refine go_newLv st rfl fun fd H1 st1 => ?_
  clear st
  walk_at "*"
  refine go_iL (.of (st1.of hg)) ?_
  refine accLO gs (fun x => V.ref x.1) (fun pre σ H' => ∃ (ps : PS) (F' : Hp) (v3 v4 v5 v6 v7 v8 : Option V), ps.map Prod.snd = tabG p0 p1 p2 (gv pre) ∧ ps.length ≤ 2 * pre.length ∧ Same F F' ∧ Sta F' ((fd, .dK (kvS ps)) :: (clS K ps ++ R)) H' ∧ σ = [some (.ref pt), some (.ref gl), some (.ref fd), v3, v4, v5, v6, v7, v8])
    ⟨[], F, _, _, _, _, _, _, rfl, Nat.zero_le _, .refl _, st1, rfl⟩ (fun pre σ H' ⟨_, _, _, _, _, _, _, _, _, _, s', st', _⟩ => .of (st'.of (s' _ _ hg))) ?_ ?_
  · rintro pre x σ H2 mx ⟨post, ep⟩ ⟨ps, F2, v3, v4, v5, v6, v7, v8, et, lp, s2, st, rfl⟩ D' hnx hct hrt
    have fx := s2 _ _ (gf x mx)
    have hp := s2 _ _ hp
    have lx : pre.length + 1 ≤ gs.length := by rw [ep, List.length_append, List.length_cons]; omega
    obtain ⟨q, g⟩ := x
    clear st1
    walk_at "*"
    refine go_sdK (st.get (.head _)) ?_
    walk_at "*"
    intro x dx hx hd ne
    obtain ⟨F5, s5, st5⟩ := st.make (C := He.ga K "Standing") hx hd ne
    refine go_ms1 ⟨F5, _, x, dx, rfl, st5, fun sa H6 ea st6 => ?_⟩
    refine ⟨rfl, ?_⟩
    rw [← ea]
    clear st st5 hx hd ne
    refine go_setdS (k := g.a) st6 (by omega) fun A a b B H7 hup hlen st7 => ?_
    have sp := st7.std.p
    clear st6
    walk_at "*"
    refine go_newF st7 fun ra F8 H8 s8 e8 st8 => ?_
    walk_at "*"
    refine go_newF st8 fun ba F9 H9 s9 e9 st9 => ?_
    have s59 := s5.trans (s8.trans s9)
    clear st7 st8 sp
    refine go_ms4 ⟨F9, _, a, b, pt, ra, ba, p0, p1, p2, g.r, g.s, g.n, g.m, rfl, rfl, rfl, rfl, s59 _ _ hp, s9 _ _ e8, e9, st9, fun H10 st10 => ?_⟩
    have st := st10.repackS
    have hup := hup (SV.take p0 p1 p2 g.r g.s g.n g.m)
    have hl2 : (A ++ (a, g.a, b.take p0 p1 p2 g.r g.s g.n g.m) :: B).length ≤ ps.length + 1 := by rw [List.length_append] at hlen ⊢; rw [List.length_cons]; omega
    generalize A ++ (a, g.a, b.take p0 p1 p2 g.r g.s g.n g.m) :: B = ps1 at *
    have hp := s59 _ _ hp
    clear st9 st10
    walk_at "*"
    rw [et] at hup
    have lp1 : ps1.length ≤ 2 * pre.length + 1 := by omega
    have sA := s2.trans s59
    clear s59 s5 s8 s9 e8 e9 s2 hl2 hlen lp et
    obtain ⟨ps', hps'⟩ : ∃ p, p = ps1 := ⟨_, rfl⟩
    subst hps'
    refine go_sdK (st.get (.head _)) ?_
    walk_at "*"
    intro x dx hx hd ne
    obtain ⟨F5, s5, st5⟩ := st.make (C := He.ga K "Standing") hx hd ne
    refine go_ms1 ⟨F5, _, x, dx, rfl, st5, fun sa H6 ea st6 => ?_⟩
    refine ⟨rfl, ?_⟩
    rw [← ea]
    clear st st5 hx hd ne
    refine go_setdS (k := g.b) st6 (by omega) fun A a b B H7 hup2 hlen st7 => ?_
    have sp := st7.std.p
    clear st6
    walk_at "*"
    refine go_newF st7 fun ra F8 H8 s8 e8 st8 => ?_
    walk_at "*"
    refine go_newF st8 fun ba F9 H9 s9 e9 st9 => ?_
    have s59 := s5.trans (s8.trans s9)
    clear st7 st8 sp
    refine go_ms4 ⟨F9, _, a, b, pt, ra, ba, p0, p1, p2, g.s, g.r, g.m, g.n, rfl, rfl, rfl, rfl, s59 _ _ hp, s9 _ _ e8, e9, st9, fun H10 st10 => ?_⟩
    have st := st10.repackS
    have hup2 := hup2 (SV.take p0 p1 p2 g.s g.r g.m g.n)
    have hl2 : (A ++ (a, g.b, b.take p0 p1 p2 g.s g.r g.m g.n) :: B).length ≤ ps'.length + 1 := by rw [List.length_append] at hlen ⊢; rw [List.length_cons]; omega
    generalize A ++ (a, g.b, b.take p0 p1 p2 g.s g.r g.m g.n) :: B = ps2 at *
    have hp := s59 _ _ hp
    clear st9 st10
    walk_at "*"
    exact hnx _ _ ⟨ps2, F9, _, _, _, _, _, _, by rw [show gv (pre ++ [(q, g)]) = gv pre ++ [g] by simp [gv], tabG_snoc, hup, hup2], by rw [List.length_append, List.length_singleton]; omega, sA.trans s59, st, rfl⟩
  rintro σ H2 ⟨ps, F2, v3, v4, v5, v6, v7, v8, et, lp, s2, st2, rfl⟩
  clear st1
  walk_at "*"
  exact hq fd ps F2 _ et s2 st2
/-! ### rate_of -/
abbrev s_rate_of : Stmt := top 5
abbrev N_rate_of : List Str := ["games", "team"]
theorem sc_rate_of : FnScope N_rate_of ["games", "team"] (defScope s_rate_of) := ⟨rfl, rfl, rfl, by decide +kernel, rfl, by decide +kernel, by decide +kernel⟩
def pr_rate_of (K : PySem.W.Frag) : V → V → Hp → VK → XK → Prop := fun a0 a1 H Q E => ∃ (F : Hp) (R : Cells) (gl : Addr) (gs : GS) (ns : List Str) (z : Str), a0 = .ref gl ∧ a1 = .str z ∧ F gl = some (.lst (lgL gs)) ∧ GF F gs ∧ gs.length ≤ 100 ∧ (∀ g ∈ gv gs, LGok ns g) ∧ inG (gv gs) z ∧ Sta F R H ∧ ∀ (t : Addr) F' H', Same F F' → F' t = some (.tup (rateL (hasG 0 0 0 (gv gs) z))) → Sta F' R H' → Q (.ref t) H' 
abbrev sp_rate_of (K : PySem.W.Frag) : Sp := Sp2 (pr_rate_of K)
theorem ok_rate_of {P : Program} {w : World} {K : PySem.W.Frag} {mg : Str → Option Value} {base : Heap} {f : Addr} {fd : FuncData} (F : FunD K "rate_of" "rate_of" (defArgs s_rate_of) (defBody s_rate_of) (defScope s_rate_of) [] [] f fd) (T : Txt K mg) (d_standings : Dn P w K mg base CX0 3 "standings" ["points", "games"] [] (sp_standings K)) (m_Standing_rate : MtD P w K mg base CX0 3 (He.ga K "Standing") "rate" ["self"] [] (sp_Standing_rate K)) : FnOk P w K mg base CX0 4 f fd ["games", "team"] (sp_rate_of K) := by
  refine F.ok sc_rate_of (fun vs H Q E h => len2 h) (fun cdv A outer s H vs Q E hr h => ?_)
  obtain ⟨a0, a1, rfl, h⟩ := h
  have hu := hu_of hr
  refine ⟨_, PSs.nox ((pss_one (ps_ret (pe_mth0 m_Standing_rate (hr.mono (by decide)) pass0 (pe_ix (ix_X hu) (pe_d d_standings (hr.mono (by decide)) rfl pass0 (pa_cons (pe_tup (pa_cons pe_int (pa_cons pe_int (pa_cons pe_int pa_nil)))) (pa_cons (pv 0) pa_nil))) (pv 1) (fun _ _ => rfl)))))), ?_⟩
  have c_Standing := T.cls_Standing
  refine go_start (σ := [some a0, some a1]) rfl ?_
  try dsimp only [cxOf, Cx.nox, Cx.wish, Cx.tr, Cx.suite]
  obtain ⟨F, R, gl, gs, ns, z, rfl, rfl, hg, gf, lg, og, hz, st, hq⟩ := h
  walk_at "*"
  rename_i pt F1 H1 s1 e1 st1
  clear st
  refine go_sp2 ⟨F1, R, pt, gl, 0, 0, 0, gs, rfl, rfl, e1, s1 _ _ hg, gf.same s1, lg, st1, fun fd ps F2 H2 et s2 st2 => ?_⟩
  clear st1
  have mz := tabG_in (p0 := 0) (p1 := 0) (p2 := 0) hz
  rw [← et] at mz
  obtain ⟨⟨a1, y⟩, my, ey⟩ := List.mem_map.mp mz
  rcases splitS z ps with hn | ⟨A, a, b, B, rfl, hn⟩
  · exact absurd (congrArg Prod.fst ey) (hn _ my)
  have mb : (z, b) ∈ tabG 0 0 0 (gv gs) := by rw [← et]; exact List.mem_map_of_mem (f := Prod.snd) (a := (a, z, b)) (by simp)
  obtain ⟨rfl, -⟩ := tabG_mem mb
  have S2 := st2.stdS
  have sp := S2.p
  walk_at "*"
  refine go_xKs (st2.get (.head _)) (valV_kvS1 hn) ?_
  walk_at "*"
  refine go_ms1 ⟨a, _, _, rfl, S2, hasG_SV og hz, by rw [List.length_map]; omega, ?_⟩
  refine go_newF st2 fun t F3 H3 s3 e3 st3 => ?_
  exact hq t F3 _ (s1.trans (s2.trans s3)) e3 (Sta.perm st3.tail List.perm_append_comm).left

abbrev gRow (x : SV) : List V := [.int x.w, .int x.t, .int x.l, .int x.pts, .int x.r0, .int x.b0, .int x.r1, .int x.b1]
theorem inr_inj (a b : Str) (h : (Sum.inr a : Key) = Sum.inr b) : a = b := Sum.inr.inj h
/-- one half of a game: whose, its runs, balls, the runs and balls against it -/
structure Q5 where
  (z : Str) (mi ba yo ot : Int)
abbrev q5L (u : Q5) : List V := [.str u.z, .int u.mi, .int u.ba, .int u.yo, .int u.ot]
theorem accTO {K : PySem.W.Frag} {σ : St} {H : Hp} {D : Ends} {α : Type} {a : Addr} (xs : List α) (emb : α → V) {g : TG} {tb : TS} (I : List α → St → Hp → Prop) (h0 : I [] σ H) (hG : ∀ pre σ H, I pre σ H → SqT K H a (xs.map emb))
    (hs : ∀ pre x σ H, x ∈ xs → (∃ post, xs = pre ++ x :: post) → I pre σ H → ∀ D' : Ends, (∀ σ H, I (pre ++ [x]) σ H → D'.nx σ H) → (∀ σ H, I (pre ++ [x]) σ H → D'.ct σ H) → (∀ v H, D.rt v H → D'.rt v H) → g (emb x) σ H fun σ2 H2 => tb D' σ2 H2) (hd : ∀ σ H, I xs σ H → D.nx σ H) : ForW (Itt K a) g tb D σ H := by
  refine ForW.it walk_embT (fun i σ H => I (xs.take i) σ H) h0 (fun i σ H _ h => hG _ σ H h) (fun i x σ H H' hi h y => ?_) (fun σ H h => hd σ H (by rwa [List.take_length] at h))
  obtain ⟨rfl, y⟩ := y
  rw [List.getElem?_map, List.getElem?_eq_getElem hi] at y
  cases y
  have et : xs.take (i + 1) = xs.take i ++ [xs[i]] := by rw [List.take_add_one, List.getElem?_eq_getElem hi]; rfl
  have := hs (xs.take i) xs[i] σ H' (List.getElem_mem hi) ⟨xs.drop (i + 1), by rw [← List.drop_eq_getElem_cons hi, List.take_append_drop]⟩ h
  rw [← et] at this
  exact this _ (fun _ _ h => h) (fun _ _ h => h) (fun _ _ h => h)


/-- what a breaker tells of two teams -/
def brL (b : Str) (x y : SV) : Int := if b = "runs" then x.r0 else if b = "rate" then x.num / x.by_ * (y.parts / y.by_) else x.w
def brk (b : Str) (z1 : Str) (x1 : SV) (z2 : Str) (x2 : SV) : Option Bool :=
  if b = "name" then some (decide (z1.cps.toList < z2.cps.toList)) else
  if brL b x1 x2 = brL b x2 x1 then none else some (decide (brL b x2 x1 < brL b x1 x2))
def ahB (z1 : Str) (x1 : SV) (z2 : Str) (x2 : SV) : List Str → Option Bool
  | [] => none
  | b :: r => match brk b z1 x1 z2 x2 with
    | some v => some v
    | none => ahB z1 x1 z2 x2 r
def ahO (z1 : Str) (x1 : SV) (z2 : Str) (x2 : SV) (bs : List Str) : Option Bool :=
  if x1.pts = x2.pts then ahB z1 x1 z2 x2 bs else some (decide (x2.pts < x1.pts))
theorem pb_ok {k : Int} {x : SV} (h : SVok k x) (hk : k ≤ 100) : 0 ≤ x.parts / x.by_ ∧ x.parts / x.by_ < 2 ^ 60 := by
  obtain ⟨g1, g2⟩ := by_pos h hk
  obtain ⟨p1, p2⟩ := parts_lt h hk
  have := Int.ediv_le_self (x.by_) (show 0 ≤ x.parts by omega)
  exact ⟨Int.ediv_nonneg (by omega) (by omega), by omega⟩
theorem cmul_pb {a : Int} {k : Int} {x : SV} (h : SVok k x) (hk : k ≤ 100) : CMul a (x.parts / x.by_) := by
  have := pb_ok h hk
  exact .inr ⟨by omega, by omega⟩
theorem ahB_app {z1 z2 : Str} {x1 x2 : SV} {post : List Str} : ∀ {pre : List Str}, ahB z1 x1 z2 x2 pre = none → ahB z1 x1 z2 x2 (pre ++ post) = ahB z1 x1 z2 x2 post
  | [], _ => rfl
  | b :: r, h => by
    unfold ahB at h
    show (match brk b z1 x1 z2 x2 with | some v => some v | none => ahB z1 x1 z2 x2 (r ++ post)) = _
    cases c : brk b z1 x1 z2 x2 with
    | some v => rw [c] at h; cases h
    | none => rw [c] at h; exact ahB_app h
theorem lt_swap {z1 z2 : Str} (ne : z1 ≠ z2) : decide (z1.cps.toList < z2.cps.toList) = !decide (z2.cps.toList < z1.cps.toList) := by
  by_cases h : z2.cps.toList < z1.cps.toList
  · rw [decide_eq_true h, decide_eq_false (fun h2 => List.lt_irrefl _ (List.lt_trans h h2))]; rfl
  · rw [decide_eq_false h, Bool.not_false, decide_eq_true_eq]
    refine Classical.byContradiction fun h2 => ne ?_
    have := List.le_antisymm h h2
    cases z1; cases z2
    congr 1
    exact Array.toList_inj.mp this
theorem brk_sym {b z1 z2 : Str} {x1 x2 : SV} (ne : z1 ≠ z2) : brk b z1 x1 z2 x2 = (brk b z2 x2 z1 x1).map (!·) := by
  unfold brk
  by_cases c : b = "name"
  · rw [if_pos c, if_pos c, lt_swap ne]; rfl
  · rw [if_neg c, if_neg c]
    generalize brL b x1 x2 = u
    generalize brL b x2 x1 = v
    by_cases e : u = v
    · rw [if_pos e, if_pos e.symm]; rfl
    · rw [if_neg e, if_neg (Ne.symm e)]
      show some _ = some _
      congr 1
      by_cases h : v < u
      · rw [decide_eq_true h, decide_eq_false (by omega)]; rfl
      · rw [decide_eq_false h, decide_eq_true (by omega)]; rfl
theorem ahB_sym {z1 z2 : Str} {x1 x2 : SV} (ne : z1 ≠ z2) : ∀ bs : List Str, ahB z1 x1 z2 x2 bs = (ahB z2 x2 z1 x1 bs).map (!·)
  | [] => rfl
  | b :: r => by
    unfold ahB
    rw [brk_sym ne]
    cases brk b z2 x2 z1 x1 with
    | some v => rfl
    | none => exact ahB_sym ne r
theorem ahO_sym {z1 z2 : Str} {x1 x2 : SV} (ne : z1 ≠ z2) (bs : List Str) : ahO z1 x1 z2 x2 bs = (ahO z2 x2 z1 x1 bs).map (!·) := by
  unfold ahO
  by_cases c : x1.pts = x2.pts
  · rw [if_pos c, if_pos c.symm]; exact ahB_sym ne bs
  · rw [if_neg c, if_neg (Ne.symm c)]
    show some _ = some _
    congr 1
    by_cases h : x2.pts < x1.pts
    · rw [decide_eq_true h, decide_eq_false (by omega)]; rfl
    · rw [decide_eq_false h, decide_eq_true (by omega)]; rfl


/-- e().items() in a loop's head: the dict is locked as the walk begins, and stays so -/
def iItemsL (td : TE) : TI := fun σ H R => td σ H fun x H1 => ∃ d kvs, x = .ref d ∧ H1 d = some (.dK kvs) ∧ ∀ od, R (Iti d od kvs) (upd H1 d (.frz od (.dK kvs)))
section
variable {X : Cx} {e : Expr} {td : TE} {apos cpos : Pos}
theorem pi_itemsL {elts : List Expr} {kk : Nat} {tpos : Pos} (he : PE X e td) (hbase : attributeBase e "items" X.env (eval e X.env) = eval e X.env := by rfl) (hline : (apos.endLine == cpos.line) = true := by rfl) :
    PI X (.Tuple elts kk tpos) (.Call (.Attribute e "items" apos) [] [] cpos) (iItemsL td) := by
  refine ⟨fun pins s σ H R I h => ?_⟩
  refine wpAny_Call_method (T := "dict") (id := "dict.items") hbase rfl hline F.plainAttrs_dict F.slot_dict_items F.type_dict_items (thn (he.run pins s σ H _ I h) fun u s1 ⟨x, H0, I0, rx, d, kvs, ex, hd0, q⟩ => ?_)
  subst ex
  obtain rfl : u = Value.ref d := rx
  obtain ⟨od, I1⟩ := I0.lock hd0 (by first | trivial | exact rfl | simp [Mut])
  have q := q od
  have hd : upd H0 d (.frz od (.dK kvs)) d = some (.frz od (.dK kvs)) := upd_same
  generalize upd H0 d (.frz od (.dK kvs)) = H1 at *
  obtain ⟨hs, hgd, hx, es, ep, vs, hdt, hsz, kv, hm⟩ := I1.frzK hd
  have hl : kvs.length = vs.length := Paired.length kv
  refine ⟨hm.dictOf.typeIs, hm.dictOf.mapOf.noDict, ?_⟩
  have I2 : Inv X pins σ H1 { s1 with heap := s1.heap.push { cls := .type "dict_items", data := .fields #[.ref d] } } := I1.kept (t' := s1.toks) fun b ob q => Heap.get?_push_of_some _ q
  have fin : wpAny (model X.prog X.w) X.A (pyIter (.ref s1.heap.objs.size)) (PIE X pins σ (.Tuple elts kk tpos) R) X.xe { s1 with heap := s1.heap.push { cls := .type "dict_items", data := .fields #[.ref d] } } := by
    refine wpAny_pyIter_items (d := d) (knd := mixKind X.prog X.w) ⟨_, Heap.get?_push_size _ rfl, rfl, rfl⟩ (hm.push _) (pi_one (tk := s1.toks) I2 _ (turn_items _ hdt) ⟨.none, .none, ?_⟩ q)
    rw [hl]
    exact Heap.get?_push_size _ rfl
  show wpAny _ _ (callWith cpos (.builtin "dict.items") [.ref d] [] []) _ X.xe s1
  exact method_meetsIn F.slot_dict_items F.entry_dict_items rfl (PySem.evalArgs_none ⟨rfl, hm.dictOf.typeIs, F.args_dict_items_1 _, _, meets_dict_items (mixKind X.prog X.w) d hs, ⟨vs, hm.dictOf⟩, fin⟩)
end
instance {td : TE} {σ : L2.St} {H : Hp} {R : It → Hp → Prop} : Go (iItemsL td σ H R) (td σ H fun x H1 => ∃ d kvs, x = .ref d ∧ H1 d = some (.dK kvs) ∧ ∀ od, R (Iti d od kvs) (upd H1 d (.frz od (.dK kvs)))) := ⟨id⟩
theorem go_itemsL {F : Hp} {L R : Cells} {H : Hp} {d : Addr} {kvs : List (Key × V)} {G : It → Hp → Prop} (st : Sta F L H) (p : L.Perm ((d, .dK kvs) :: R)) (h : ∀ od H', Sta F ((d, .frz od (.dK kvs)) :: R) H' → G (Iti d od kvs) H') : ∃ d' kvs', V.ref d = .ref d' ∧ H d' = some (.dK kvs') ∧ ∀ od, G (Iti d' od kvs') (upd H d' (.frz od (.dK kvs'))) :=
  ⟨d, kvs, rfl, (st.perm p).get (.head _), fun od => h od _ (st.put p rfl)⟩


/-- a row of the table -/
abbrev TP := Str × SV
def gah (bs : List Str) (t o : TP) : Bool := (ahO t.1 t.2 o.1 o.2 bs).getD false
/-- where a row stops, on its way up from n -/
def stopAt (bs : List Str) (t : TP) (os : List TP) : Nat → Nat
  | 0 => 0
  | n + 1 => match os[n]? with
    | some o => if gah bs t o then stopAt bs t os n else n + 1
    | none => n + 1
def insT (bs : List Str) (os : List TP) (t : TP) : List TP := os.take (stopAt bs t os os.length) ++ [t] ++ os.drop (stopAt bs t os os.length)
def insAll (bs : List Str) (ts : List TP) : List TP := ts.foldl (insT bs) []
theorem stopAt_le {bs : List Str} {t : TP} {os : List TP} : ∀ n, stopAt bs t os n ≤ n
  | 0 => Nat.le_refl _
  | n + 1 => by
    unfold stopAt
    split
    · split
      · exact Nat.le_succ_of_le (stopAt_le n)
      · exact Nat.le_refl _
    · exact Nat.le_refl _
theorem insT_len {bs : List Str} {t : TP} {os : List TP} : (insT bs os t).length = os.length + 1 := by
  unfold insT
  have := stopAt_le (bs := bs) (t := t) (os := os) os.length
  simp only [List.length_append, List.length_take, List.length_drop, List.length_singleton]
  omega
theorem insAll_snoc {bs : List Str} {ts : List TP} {t : TP} : insAll bs (ts ++ [t]) = insT bs (insAll bs ts) t := by
  unfold insAll
  rw [List.foldl_append]; rfl
theorem insT_perm {bs : List Str} {t : TP} {os : List TP} : (insT bs os t).Perm (t :: os) := by
  unfold insT
  have := List.perm_middle (a := t) (l₁ := os.take (stopAt bs t os os.length)) (l₂ := os.drop (stopAt bs t os os.length))
  rw [List.take_append_drop] at this
  rw [List.append_assoc]
  exact this
theorem insAll_perm {bs : List Str} : ∀ ts : List TP, (insAll bs ts).Perm ts := rev_ind (.refl _) fun ts t ih => by
  rw [insAll_snoc]
  exact insT_perm.trans ((List.Perm.cons _ ih).trans (List.perm_append_comm (l₁ := [t]) (l₂ := ts)))


abbrev OS := List (Addr × SA × TP)
def OsF (F : Hp) (os : OS) : Prop := ∀ x ∈ os, F x.1 = some (.tup [.str x.2.2.1, .ref x.2.1.p])
theorem OsF.same {F F' : Hp} {os : OS} (h : OsF F os) (s : Same F F') : OsF F' os := fun x m => s _ _ (h x m)
abbrev RS := List (Addr × Addr × TP)
abbrev rwL (q : Addr) (t : TP) : List V := [.str t.1, .int t.2.pts, .int t.2.w, .int t.2.t, .int t.2.l, .ref q]
def RsF (F : Hp) (rs : RS) : Prop := ∀ r ∈ rs, F r.1 = some (.tup (rwL r.2.1 r.2.2)) ∧ F r.2.1 = some (.tup (rateL r.2.2.2))
theorem RsF.same {F F' : Hp} {rs : RS} (h : RsF F rs) (s : Same F F') : RsF F' rs := fun x m => ⟨s _ _ (h x m).1, s _ _ (h x m).2⟩
theorem StH_of {K : PySem.W.Frag} {F H : Hp} {L : Cells} {ps : PS} {a : SA} {z : Str} {x : SV} (st : Sta F L H) (hL : ∀ c ∈ clS K ps, c ∈ L) (m : (a, z, x) ∈ ps) : StH K H a x := by
  have g : ∀ c ∈ stC K a x, c ∈ L := fun c mc => hL c (List.mem_flatMap.mpr ⟨_, m, mc⟩)
  exact ⟨st.get (g _ (.head _)), st.get (g _ (.tail _ (.head _))), st.get (g _ (.tail _ (.tail _ (.head _)))), st.get (g _ (.tail _ (.tail _ (.tail _ (.head _)))))⟩

/-! ### goes_ahead -/
abbrev s_goes_ahead : Stmt := top 6
abbrev N_goes_ahead : List Str := ["one", "other", "breakers", "word", "left", "right"]
theorem sc_goes_ahead : FnScope N_goes_ahead ["one", "other", "breakers"] (defScope s_goes_ahead) := ⟨rfl, rfl, rfl, by decide +kernel, rfl, by decide +kernel, by decide +kernel⟩
def pr_goes_ahead (K : PySem.W.Frag) : V → V → V → Hp → VK → XK → Prop := fun a0 a1 a2 H Q E => ∃ (F : Hp) (R : Cells) (q1 q2 bl : Addr) (z1 z2 : Str) (s1 s2 : SA) (x1 x2 : SV) (k : Int) (bs : List Str), a0 = .ref q1 ∧ a1 = .ref q2 ∧ a2 = .ref bl ∧ F q1 = some (.tup [.str z1, .ref s1.p]) ∧ F q2 = some (.tup [.str z2, .ref s2.p]) ∧ F bl = some (.lst (bs.map V.str)) ∧ (∀ F' H', Sta F' R H' → StH K H' s1 x1 ∧ StH K H' s2 x2) ∧ SVok k x1 ∧ SVok k x2 ∧ k ≤ 100 ∧ Sta F R H ∧ ∀ F' H', Same F F' → Sta F' R H' → Q (.bl ((ahO z1 x1 z2 x2 bs).getD false)) H' 
abbrev sp_goes_ahead (K : PySem.W.Frag) : Sp := Sp3 (pr_goes_ahead K)
theorem ok_goes_ahead {P : Program} {w : World} {K : PySem.W.Frag} {mg : Str → Option Value} {base : Heap} {f : Addr} {fd : FuncData} (F : FunD K "goes_ahead" "goes_ahead" (defArgs s_goes_ahead) (defBody s_goes_ahead) (defScope s_goes_ahead) [] [] f fd) (T : Txt K mg) (m_Standing_rate : MtD P w K mg base CX0 3 (He.ga K "Standing") "rate" ["self"] [] (sp_Standing_rate K)) : FnOk P w K mg base CX0 4 f fd ["one", "other", "breakers"] (sp_goes_ahead K) := by
  refine F.ok sc_goes_ahead (fun vs H Q E h => len3 h) (fun cdv A outer s H vs Q E hr h => ?_)
  obtain ⟨a0, a1, a2, rfl, h⟩ := h
  have hu := hu_of hr
  refine ⟨_, PSs.nox ((pss_cons (ps_if (pt_cmpR (op_neX hr.units) (pe_fld (pe_ix (ix_X hu) (pv 0) pe_int (fun _ _ => rfl)) rfl) (pe_fld (pe_ix (ix_X hu) (pv 1) pe_int (fun _ _ => rfl)) rfl) (nomark _)) (pss_one (ps_ret (pe_cmpR op_gt (pe_fld (pe_ix (ix_X hu) (pv 0) pe_int (fun _ _ => rfl)) rfl) (pe_fld (pe_ix (ix_X hu) (pv 1) pe_int (fun _ _ => rfl)) rfl) (nomark _)))) pss_nil)
      (pss_cons (ps_for PassesOwn.never rfl (pi_X (pv 2)) (pg_name (i := 3) sc_goes_ahead.nd rfl (by first | exact Or.inl rfl | exact Or.inr rfl)) (pss_cons (ps_if (pt_cmpR (op_eqX hr.units) (pv 3) pe_str (nomark _)) (pss_one (ps_ret (pe_cmpR op_lt_str (pe_ix (ix_X hu) (pv 0) pe_int (fun _ _ => rfl)) (pe_ix (ix_X hu) (pv 1) pe_int (fun _ _ => rfl)) (nomark _)))) pss_nil)
      (pss_cons (ps_set (i := 4) sc_goes_ahead.nd rfl (by first | exact Or.inl rfl | exact Or.inr rfl) (pe_ix (ix_X hu) (pe_fld (pe_ix (ix_X hu) (pv 0) pe_int (fun _ _ => rfl)) rfl) pe_int (fun _ _ => rfl)))
      (pss_cons (ps_set (i := 5) sc_goes_ahead.nd rfl (by first | exact Or.inl rfl | exact Or.inr rfl) (pe_ix (ix_X hu) (pe_fld (pe_ix (ix_X hu) (pv 1) pe_int (fun _ _ => rfl)) rfl) pe_int (fun _ _ => rfl)))
      (pss_cut (ps_if (pt_cmpR (op_eqX hr.units) (pv 3) pe_str (nomark _)) (pss_cons (ps_set (i := 4) sc_goes_ahead.nd rfl (by first | exact Or.inl rfl | exact Or.inr rfl) (pe_ix (ix_X hu) (pe_fld (pe_ix (ix_X hu) (pv 0) pe_int (fun _ _ => rfl)) rfl) pe_int (fun _ _ => rfl)))
      (pss_one (ps_set (i := 5) sc_goes_ahead.nd rfl (by first | exact Or.inl rfl | exact Or.inr rfl) (pe_ix (ix_X hu) (pe_fld (pe_ix (ix_X hu) (pv 1) pe_int (fun _ _ => rfl)) rfl) pe_int (fun _ _ => rfl))))) (pss_one (ps_if (pt_cmpR (op_eqX hr.units) (pv 3) pe_str (nomark _)) (pss_cons (ps_set (i := 4) sc_goes_ahead.nd rfl (by first | exact Or.inl rfl | exact Or.inr rfl) (pe_op op_mulX (pe_ix (ix_X hu) (pe_mth0 m_Standing_rate (hr.mono (by decide)) pass0 (pe_ix (ix_X hu) (pv 0) pe_int (fun _ _ => rfl))) pe_int (fun _ _ => rfl)) (pe_ix (ix_X hu) (pe_mth0 m_Standing_rate (hr.mono (by decide)) pass0 (pe_ix (ix_X hu) (pv 1) pe_int (fun _ _ => rfl))) pe_int (fun _ _ => rfl))))
      (pss_one (ps_set (i := 5) sc_goes_ahead.nd rfl (by first | exact Or.inl rfl | exact Or.inr rfl) (pe_op op_mulX (pe_ix (ix_X hu) (pe_mth0 m_Standing_rate (hr.mono (by decide)) pass0 (pe_ix (ix_X hu) (pv 1) pe_int (fun _ _ => rfl))) pe_int (fun _ _ => rfl)) (pe_ix (ix_X hu) (pe_mth0 m_Standing_rate (hr.mono (by decide)) pass0 (pe_ix (ix_X hu) (pv 0) pe_int (fun _ _ => rfl))) pe_int (fun _ _ => rfl)))))) pss_nil)))
      (pss_one (ps_if (pt_cmpR (op_neX hr.units) (pv 4) (pv 5) (nomark _)) (pss_one (ps_ret (pe_cmpR op_gt (pv 4) (pv 5) (nomark _)))) pss_nil)))))))
      (pss_one (ps_ret pe_bl))))), ?_⟩
  have c_Standing := T.cls_Standing
  have n_Standing_points := T.noat_Standing_points
  have n_Standing_runs := T.noat_Standing_runs
  have n_Standing_tallies := T.noat_Standing_tallies
  refine go_start (σ := [some a0, some a1, some a2, none, none, none]) rfl ?_
  try dsimp only [cxOf, Cx.nox, Cx.wish, Cx.tr, Cx.suite]
  obtain ⟨F, R, q1, q2, bl, z1, z2, sa1, sa2, x1, x2, k, bs, rfl, rfl, rfl, e1, e2, eb, hS, ok1, ok2, hk, st, hq⟩ := h
  obtain ⟨S1, S2⟩ := hS _ _ st
  have p1 := S1.p
  have p2 := S2.p
  walk_at "*"
  by_cases c : x1.pts = x2.pts
  rotate_left
  · refine ite_T ?h1 ?_
    case h1 => rw [decI, decide_eq_false c]; rfl
    walk_at "*"
    exact ret_V (by unfold ahO; rw [if_neg c]; rfl) (hq _ _ (.refl _) st)
  refine ite_F ?h2 ?_
  case h2 => rw [decI, decide_eq_true c]; rfl
  have app : ∀ {pre : List Str} {b : Str} {post : List Str}, bs = pre ++ b :: post → ahB z1 x1 z2 x2 pre = none → (∀ w, brk b z1 x1 z2 x2 = some w → (ahO z1 x1 z2 x2 bs).getD false = w) := fun {pre b post} e h0 w hw => by
    unfold ahO
    rw [if_pos c, e, ahB_app h0]
    unfold ahB
    rw [hw]; rfl
  walk_at "*"
  refine go_iL (.of (st.of eb)) ?_
  refine accLO bs V.str (fun pre σ H' => ahB z1 x1 z2 x2 pre = none ∧ ∃ (F' : Hp) (v3 v4 v5 : Option V), Same F F' ∧ Sta F' R H' ∧ σ = [some (.ref q1), some (.ref q2), some (.ref bl), v3, v4, v5])
    ⟨rfl, F, _, _, _, .refl _, st, rfl⟩ (fun pre σ H' ⟨_, _, _, _, _, s', st', _⟩ => .of (st'.of (s' _ _ eb))) ?_ ?_
  · rintro pre b σ H2 mb ⟨post, ep⟩ ⟨hp, F2, v3, v4, v5, s2, st2, rfl⟩ D' hnx hct hrt
    have e1 := s2 _ _ e1
    have e2 := s2 _ _ e2
    obtain ⟨S1, S2⟩ := hS _ _ st2
    have sp1 := S1.p
    have sp2 := S2.p
    clear p1 p2 st
    walk_at "*"
    by_cases cn : b = "name"
    · refine ite_T ?h3 ?_
      case h3 => rw [cn]; rfl
      walk_at "*"
      refine ⟨z1, z2, rfl, rfl, ?_⟩
      exact hrt _ _ (ret_V (by rw [app ep hp _ (by unfold brk; rw [if_pos cn])]) (hq _ _ s2 st2))
    refine ite_F ?h4 ?_
    case h4 => rw [decS]; exact decide_eq_false cn
    walk_at "*"
    refine go_xL (.of S1.tl) at0 ?_
    walk_at "*"
    refine go_xL (.of S2.tl) at0 ?_
    walk_at "*"
    refine go_cut (fun σ' H' => ∃ F3, Same F2 F3 ∧ Sta F3 R H' ∧ σ' = [some (.ref q1), some (.ref q2), some (.ref bl), some (.str b), some (.int (brL b x1 x2)), some (.int (brL b x2 x1))]) ?_ ?_
    · walk_at "*"
      by_cases cr : b = "runs"
      · refine ite_T ?h5 ?_
        case h5 => rw [cr]; rfl
        walk_at "*"
        refine go_xL (.of S1.rl) at0 ?_
        walk_at "*"
        refine go_xL (.of S2.rl) at0 ?_
        walk_at "*"
        exact ⟨F2, .refl _, st2, by unfold brL; rw [if_pos cr, if_pos cr]⟩
      refine ite_F ?h6 ?_
      case h6 => rw [decS]; exact decide_eq_false cr
      walk_at "*"
      by_cases ct : b = "rate"
      · refine ite_T ?h7 ?_
        case h7 => rw [ct]; rfl
        walk_at "*"
        refine go_sp1 ⟨sa1, x1, k, rfl, S1, ok1, hk, ?_⟩
        refine go_newF st2 fun t3 F3 H3 s3 e3 st3 => ?_
        obtain ⟨S1, S2⟩ := hS _ _ st3
        have e1 := s3 _ _ e1
        have e2 := s3 _ _ e2
        have sp1 := S1.p
        have sp2 := S2.p
        walk_at "*"
        refine go_sp1 ⟨sa2, x2, k, rfl, S2, ok2, hk, ?_⟩
        refine go_newF st3 fun t4 F4 H4 s4 e4 st4 => ?_
        obtain ⟨S1, S2⟩ := hS _ _ st4
        have e1 := s4 _ _ e1
        have e2 := s4 _ _ e2
        have sp1 := S1.p
        have sp2 := S2.p
        walk_at "*"
        refine go_mulI (cmul_pb ok2 hk) ?_
        walk_at "*"
        refine go_sp1 ⟨sa2, x2, k, rfl, S2, ok2, hk, ?_⟩
        refine go_newF st4 fun t5 F5 H5 s5 e5 st5 => ?_
        obtain ⟨S1, S2⟩ := hS _ _ st5
        have e1 := s5 _ _ e1
        have e2 := s5 _ _ e2
        have sp1 := S1.p
        have sp2 := S2.p
        walk_at "*"
        refine go_sp1 ⟨sa1, x1, k, rfl, S1, ok1, hk, ?_⟩
        refine go_newF st5 fun t6 F6 H6 s6 e6 st6 => ?_
        obtain ⟨S1, S2⟩ := hS _ _ st6
        have e1 := s6 _ _ e1
        have e2 := s6 _ _ e2
        have sp1 := S1.p
        have sp2 := S2.p
        walk_at "*"
        refine go_mulI (cmul_pb ok1 hk) ?_
        walk_at "*"
        exact ⟨_, s3.trans (s4.trans (s5.trans s6)), st6, by unfold brL; rw [if_neg cr, if_pos ct, if_neg cr, if_pos ct]⟩
      refine ite_F ?h8 ?_
      case h8 => rw [decS]; exact decide_eq_false ct
      walk_at "*"
      exact ⟨F2, .refl _, st2, by unfold brL; rw [if_neg cr, if_neg ct, if_neg cr, if_neg ct]⟩
    rintro σ' H3 ⟨F3, s3, st3, rfl⟩
    clear st2
    walk_at "*"
    by_cases ce : brL b x1 x2 = brL b x2 x1
    · refine ite_F ?h9 ?_
      case h9 => rw [decI, decide_eq_true ce]; rfl
      walk_at "*"
      exact hnx _ _ ⟨by rw [ahB_app hp]; unfold ahB brk; rw [if_neg cn, if_pos ce]; rfl, F3, _, _, _, s2.trans s3, st3, rfl⟩
    · refine ite_T ?h10 ?_
      case h10 => rw [decI, decide_eq_false ce]; rfl
      walk_at "*"
      exact hrt _ _ (ret_V (by rw [app ep hp _ (by unfold brk; rw [if_neg cn, if_neg ce])]) (hq _ _ (s2.trans s3) st3))
  rintro σ H2 ⟨hp, F2, v3, v4, v5, s2, st2, rfl⟩
  walk_at "*"
  exact ret_V (by unfold ahO; rw [if_pos c, hp]; rfl) (hq _ _ s2 st2)
/-! ### standing -/
abbrev s_standing : Stmt := top 7
abbrev N_standing : List Str := ["points", "breakers", "games", "order", "team", "mine", "at"]
theorem sc_standing : FnScope N_standing ["points", "breakers", "games"] (defScope s_standing) := ⟨rfl, rfl, rfl, by decide +kernel, rfl, by decide +kernel, by decide +kernel⟩
def pr_standing (K : PySem.W.Frag) : V → V → V → Hp → VK → XK → Prop := fun a0 a1 a2 H Q E => ∃ (F : Hp) (R : Cells) (pt bl gl : Addr) (p0 p1 p2 : Int) (bs ns : List Str) (gs : GS), a0 = .ref pt ∧ a1 = .ref bl ∧ a2 = .ref gl ∧ F pt = some (.tup [.int p0, .int p1, .int p2]) ∧ F bl = some (.lst (bs.map V.str)) ∧ F gl = some (.lst (lgL gs)) ∧ GF F gs ∧ gs.length ≤ 100 ∧ (∀ g ∈ gv gs, LGok ns g) ∧ Sta F R H ∧ ∀ (l : Addr) (rs : RS) F' H', rs.map (fun r => r.2.2) = insAll bs (tabG p0 p1 p2 (gv gs)) → RsF F' rs → Same F F' → Sta F' ((l, .lst (rs.map fun r => V.ref r.1)) :: R) H' → Q (.ref l) H' 
abbrev sp_standing (K : PySem.W.Frag) : Sp := Sp3 (pr_standing K)
theorem ok_standing {P : Program} {w : World} {K : PySem.W.Frag} {mg : Str → Option Value} {base : Heap} {f : Addr} {fd : FuncData} (F : FunD K "standing" "standing" (defArgs s_standing) (defBody s_standing) (defScope s_standing) [] [] f fd) (T : Txt K mg) (d_standings : Dn P w K mg base CX0 3 "standings" ["points", "games"] [] (sp_standings K)) (d_goes_ahead : Dn P w K mg base CX0 4 "goes_ahead" ["one", "other", "breakers"] [] (sp_goes_ahead K)) (m_Standing_rate : MtD P w K mg base CX0 3 (He.ga K "Standing") "rate" ["self"] [] (sp_Standing_rate K)) : FnOk P w K mg base CX0 5 f fd ["points", "breakers", "games"] (sp_standing K) := by
  refine F.ok sc_standing (fun vs H Q E h => len3 h) (fun cdv A outer s H vs Q E hr h => ?_)
  obtain ⟨a0, a1, a2, rfl, h⟩ := h
  have hu := hu_of hr
  refine ⟨_, PSs.nox ((pss_cons (ps_set (i := 3) sc_standing.nd rfl (by first | exact Or.inl rfl | exact Or.inr rfl) (pe_lst pa_nil))
      (pss_cons (ps_for PassesOwn.never rfl (pi_itemsL (pe_d d_standings (hr.mono (by decide)) rfl pass0 (pa_cons (pv 0) (pa_cons (pv 2) pa_nil)))) (pg_tup (n := 2) rfl (pgs_cons (pg_name (i := 4) sc_standing.nd rfl (by first | exact Or.inl rfl | exact Or.inr rfl)) (pgs_cons (pg_name (i := 5) sc_standing.nd rfl (by first | exact Or.inl rfl | exact Or.inr rfl)) pgs_nil))) (pss_cons (ps_set (i := 6) sc_standing.nd rfl (by first | exact Or.inl rfl | exact Or.inr rfl) (pe_callB call_lenX (by rfl) T.b_len L2.A.boot_len (pa_cons (pv 3) pa_nil)))
      (pss_cut (ps_while PassesOwn.never (PW.pt (pw_and (pt_cmpR op_gt (pv 6) pe_int (nomark _)) (pw_and1 (pt_truX (pe_d d_goes_ahead (hr.mono (by decide)) rfl pass0 (pa_cons (pe_tup (pa_cons (pv 4) (pa_cons (pv 5) pa_nil))) (pa_cons (pe_ix (ix_X hu) (pv 3) (pe_op op_sub (pv 6) pe_int) (fun _ _ => rfl)) (pa_cons (pv 1) pa_nil)))))))) (pss_one (ps_aug (i := 6) sc_standing.nd rfl (by first | exact Or.inl rfl | exact Or.inr rfl) pe_int ip_sub)))
      (pss_one (ps_expr (pe_bm PySem.F.plainAttrs_list PySem.F.slot_list_insert PySem.F.type_list_insert mt_insert (pv 3) (pa_cons (pv 6) (pa_cons (pe_tup (pa_cons (pv 4) (pa_cons (pv 5) pa_nil))) pa_nil))))))))
      (pss_one (ps_ret (pe_lc (own := [("team", 4), ("mine", 5)]) rfl sc_standing.nd (pi_X (pv 3)) (blkOk_by (N := N_standing) (sc := defScope s_standing) (own := [("team", 4), ("mine", 5)]) (by decide +kernel)) (fun _ _ _ _ _ => (pg_tupK (K := K) rfl (n := 2) rfl (pgs_cons (pg_name (i := 4) sc_standing.nd rfl (by first | exact Or.inl rfl | exact Or.inr rfl)) (pgs_cons (pg_name (i := 5) sc_standing.nd rfl (by first | exact Or.inl rfl | exact Or.inr rfl)) pgs_nil)))) (fun _ _ _ _ _ => pts_nil) (fun _ _ _ _ _ => (pe_op (op_addK (K := K) rfl) (pe_op (op_addK (K := K) rfl) (pe_tup (pa_cons (pv 4) (pa_cons (pe_fldK (K := K) rfl (pv 5) rfl) pa_nil))) (pe_callTy (call_tupK (K := K) rfl) (by rfl) T.b_tuple L2.A.boot_tuple (pa_cons (pe_fldK (K := K) rfl (pv 5) rfl) pa_nil))) (pe_tup (pa_cons (pe_mth0 m_Standing_rate (hr.mono (by decide)) pass0 (pv 5)) pa_nil)))))))))), ?_⟩
  have c_Standing := T.cls_Standing
  have n_Standing_points := T.noat_Standing_points
  have n_Standing_tallies := T.noat_Standing_tallies
  refine go_start (σ := [some a0, some a1, some a2, none, none, none, none]) rfl ?_
  try dsimp only [cxOf, Cx.nox, Cx.wish, Cx.tr, Cx.suite]
  obtain ⟨F, R, pt, bl, gl, p0, p1, p2, bs, ns, gs, rfl, rfl, rfl, hp, hb, hg, gf, lg, og, st, hq⟩ := h
  walk_at "*"
  refine go_newLv st rfl fun od H1 st1 => ?_
  clear st
  walk_at "*"
  refine go_sp2 ⟨F, _, pt, gl, p0, p1, p2, gs, rfl, rfl, hp, hg, gf, lg, st1, fun fd ps F2 H2 eps s2 st2 => ?_⟩
  refine go_itemsL (G := fun J h => ForW J _ _ _ _ h) st2 .rfl fun ofz H3 st3 => ?_
  clear st1 st2
  have st4 : Sta F2 ((od, .lst []) :: (fd, .frz ofz (.dK (kvS ps))) :: (clS K ps ++ R)) H3 := by
    have := List.perm_middle (a := (od, HO.lst [])) (l₁ := (fd, HO.frz ofz (.dK (kvS ps))) :: clS K ps) (l₂ := R)
    exact st3.perm this
  clear st3
  have lps : ps.length ≤ 200 := by
    have h1 := tabG_len (p0 := p0) (p1 := p1) (p2 := p2) (gs := gv gs)
    rw [← eps, List.length_map, List.length_map] at h1
    omega
  have okps : ∀ a z x, (a, z, x) ∈ ps → SVok (gs.length : Int) x := fun a z x m => by
    obtain ⟨rfl, hi⟩ := tabG_mem (z := z) (x := x) (by rw [← eps]; exact List.mem_map_of_mem (f := Prod.snd) (a := (a, z, x)) m)
    have := hasG_SV (p0 := p0) (p1 := p1) (p2 := p2) og hi
    rwa [List.length_map] at this
  have lk : (kvS ps).length = ps.length := List.length_map ..
  refine ForW.it (walk_items (d := fd) (o := ofz) (kvs := kvS ps)) (fun i σ H' => ∃ (os : OS) (F' : Hp) (v4 v5 v6 : Option V), os.map (fun x => x.2.2) = insAll bs ((ps.take i).map Prod.snd) ∧ OsF F' os ∧ (∀ x ∈ os, x.2 ∈ ps) ∧ Same F2 F' ∧ Sta F' ((od, .lst (os.map fun x => V.ref x.1)) :: (fd, .frz ofz (.dK (kvS ps))) :: (clS K ps ++ R)) H' ∧ σ = [some (.ref pt), some (.ref bl), some (.ref gl), some (.ref od), v4, v5, v6])
    ⟨[], F2, _, _, _, by rw [List.take_zero]; rfl, (fun _ m => nomatch m), (fun _ m => nomatch m), .refl _, st4, rfl⟩ (fun i σ H' _ ⟨_, _, _, _, _, _, _, _, _, st', _⟩ => st'.get (.tail _ (.head _))) ?_ ?_
  · rintro i v σ H5 H5' hi ⟨os, F5, v4, v5, v6, eos, hos, pos, s5, st5, rfl⟩ ⟨T, ka, vb, rfl, hT, rfl, eka, evb⟩
    have hi' : i < ps.length := by omega
    have ex : ps[i]? = some ps[i] := List.getElem?_eq_getElem hi'
    have mx : ps[i] ∈ ps := List.getElem_mem hi'
    have eka : (((ps.map fun p => ((Sum.inr p.2.1 : Key), V.ref p.1.p))[i]?).map fun kv => kV kv.1) = some ka := eka
    have evb : (((ps.map fun p => ((Sum.inr p.2.1 : Key), V.ref p.1.p))[i]?).map Prod.snd) = some vb := evb
    rw [List.getElem?_map, ex] at eka evb
    have et : (ps.take (i + 1)).map Prod.snd = (ps.take i).map Prod.snd ++ [ps[i].2] := by rw [List.take_add_one, ex, List.map_append]; rfl
    generalize ps[i] = x at *
    obtain ⟨a, z, x⟩ := x
    obtain rfl : ka = .str z := (Option.some.inj eka).symm
    obtain rfl : vb = .ref a.p := (Option.some.inj evb).symm
    have eT : (upd H5 T (.tup [.str z, .ref a.p])) T = some (.tup [.str z, .ref a.p]) := upd_same
    have st6 := st5.same (same_new (o := .tup [.str z, .ref a.p]) hT)
  
    generalize upd H5 T (.tup [.str z, .ref a.p]) = H6 at st6 eT ⊢
    refine go_gtup (.of eT) rfl (go_gcons (go_name rfl (go_gcons (go_name rfl (go_gnil ?_)))))
    clear st5 st4
    walk_at "*"
    have los : (os.map fun x => V.ref x.1).length = os.length := List.length_map ..
    have hb5 := (s2.trans s5) _ _ hb
    have hL : ∀ c ∈ clS K ps, c ∈ ((od, .lst (os.map fun x => V.ref x.1)) :: (fd, .frz ofz (.dK (kvS ps))) :: (clS K ps ++ R)) := fun c m => .tail _ (.tail _ (List.mem_append_left _ m))
    have ngs : (gs.length : Int) ≤ 100 := by omega
    refine go_cut (fun σ' H' => ∃ F', Same F5 F' ∧ Sta F' ((od, .lst (os.map fun x => V.ref x.1)) :: (fd, .frz ofz (.dK (kvS ps))) :: (clS K ps ++ R)) H' ∧ σ' = [some (.ref pt), some (.ref bl), some (.ref gl), some (.ref od), some (.str z), some (.ref a.p), some (.int (stopAt bs (z, x) (os.map fun x => x.2.2) os.length : Nat))]) ?_ ?_
    · walk_at "*"
      obtain ⟨W, hW⟩ : ∃ W : Nat → St → Hp → Prop, W = fun k σ H' => ∃ F', Same F5 F' ∧ Sta F' ((od, .lst (os.map fun x => V.ref x.1)) :: (fd, .frz ofz (.dK (kvS ps))) :: (clS K ps ++ R)) H' ∧ k ≤ os.length ∧ stopAt bs (z, x) (os.map fun x => x.2.2) os.length = stopAt bs (z, x) (os.map fun x => x.2.2) k ∧ σ = [some (.ref pt), some (.ref bl), some (.ref gl), some (.ref od), some (.str z), some (.ref a.p), some (.int (k : Nat))] := ⟨_, rfl⟩
      refine ⟨W, ⟨os.length, by rw [hW, los]; exact ⟨F5, .refl _, st6, Nat.le_refl _, rfl, rfl⟩⟩, ?_⟩
      intro k σ H7 w
      rw [hW] at w
      obtain ⟨F7, s7, st7, hk, ek, rfl⟩ := w
      clear st6
      walk_at "*"
      refine if2 (fun c => ?_) (fun c => ?_)
      · have c := of_decide_eq_true c
        obtain ⟨k, rfl⟩ : ∃ j, k = j + 1 := ⟨k - 1, by omega⟩
        walk_at "*"
        rename_i t8 F8 H8 s8 e8 st8
        have eo : os[k]? = some os[k] := List.getElem?_eq_getElem (by omega)
        have mo : os[k] ∈ os := List.getElem_mem (by omega)
        generalize os[k] = o at *
        rw [show ((k + 1 : Nat) : Int) - 1 = (k : Int) by omega]
        refine go_xL (.of (st8.get (.head _))) (atI_nat (by rw [List.getElem?_map, eo]; rfl)) ?_
        walk_at "*"
        obtain ⟨qo, ao, zo, xo⟩ := o
        have mo2 := pos _ mo
        refine go_sp3 ⟨F8, _, t8, qo, bl, z, zo, a, ao, x, xo, gs.length, bs, rfl, rfl, rfl, e8, (s7.trans s8) _ _ (hos _ mo), (s7.trans s8) _ _ hb5, fun F' H' st' => ⟨StH_of st' hL mx, StH_of st' hL mo2⟩, okps _ _ _ mx, okps _ _ _ mo2, ngs, st8, fun F9 H9 s9 st9 => ?_⟩
        clear st7 st8
        have eo2 : (os.map fun x => x.2.2)[k]? = some (zo, xo) := by rw [List.getElem?_map, eo]; rfl
        walk_at "*"
        refine if2 (fun c => ?_) (fun c => ?_)
        · refine ⟨fun σ' H' => ∃ m', m' < k + 1 ∧ W m' σ' H', fun _ _ h => h, ?_⟩
          walk_at "*"
          refine ⟨k, by omega, ?_⟩
          rw [hW]
          exact ⟨F9, s7.trans (s8.trans s9), st9, by omega, ek.trans (by rw [stopAt, eo2]; exact if_pos c), by rw [show ((k + 1 : Nat) : Int) - 1 = (k : Int) by omega]⟩
        · exact ⟨F9, s7.trans (s8.trans s9), st9, by rw [ek, stopAt, eo2]; dsimp only; rw [if_neg (show ¬ gah bs (z, x) (zo, xo) = true from by rw [show gah bs (z, x) (zo, xo) = false from c]; decide)]⟩
      · have c := of_decide_eq_false c
        obtain rfl : k = 0 := by omega
        walk_at "*"
        exact ⟨F7, s7, st7, by rw [ek]; rfl⟩
    rintro σ' H7 ⟨F7, s7, st7, rfl⟩
    clear st6
    walk_at "*"
    rename_i t8 F8 H8 s8 e8 st8
    have lo : os.length ≤ 200 := by
      have h1 := congrArg List.length eos
      rw [(insAll_perm _).length_eq, List.length_map, List.length_map, List.length_take] at h1
      omega
    have ln := stopAt_le (bs := bs) (t := (z, x)) (os := os.map fun x => x.2.2) os.length
    refine ⟨od, _, _, _, rfl, rfl, st8.get (.head _), Nat.lt_of_lt_of_le (show _ < 100000 by rw [los]; omega) (by decide), by omega, by omega, ?_⟩
    have st9 := st8.put (o' := .lst ((os.map fun x => V.ref x.1).take (stopAt bs (z, x) (os.map fun x => x.2.2) os.length : Int).toNat ++ [V.ref t8] ++ (os.map fun x => V.ref x.1).drop (stopAt bs (z, x) (os.map fun x => x.2.2) os.length : Int).toNat)) .rfl rfl
    clear st7 st8
    walk_at "*"
    rw [Int.toNat_natCast] at st9
    have en : stopAt bs (z, x) (os.map fun x => x.2.2) (os.map fun x => x.2.2).length = stopAt bs (z, x) (os.map fun x => x.2.2) os.length := by rw [List.length_map]
    generalize hn : stopAt bs (z, x) (os.map fun x => x.2.2) os.length = n at *
    refine ⟨os.take n ++ [(t8, a, z, x)] ++ os.drop n, F8, _, _, _, ?_, ?_, ?_, s5.trans (s7.trans s8), ?_, rfl⟩
    · rw [et, insAll_snoc, ← eos]
      unfold insT
      rw [en, List.map_append, List.map_append, List.map_take, List.map_drop]; rfl
    · intro y my
      simp only [List.mem_append, List.mem_singleton] at my
      rcases my with (my | rfl) | my
      · exact (s7.trans s8) _ _ (hos _ (List.mem_of_mem_take my))
      · exact e8
      · exact (s7.trans s8) _ _ (hos _ (List.mem_of_mem_drop my))
    · intro y my
      simp only [List.mem_append, List.mem_singleton] at my
      rcases my with (my | rfl) | my
      · exact pos _ (List.mem_of_mem_take my)
      · exact mx
      · exact pos _ (List.mem_of_mem_drop my)
    · rw [List.map_append, List.map_append, List.map_take, List.map_drop]
      exact st9
  rintro σ H5 ⟨os, F5, v4, v5, v6, eos, hos, pos, s5, st5, rfl⟩
  rw [lk, List.take_of_length_le (Nat.le_refl _), eps] at eos
  have lo : os.length ≤ 200 := by
    have h1 := congrArg List.length eos
    rw [(insAll_perm _).length_eq, ← eps, List.length_map, List.length_map] at h1
    omega
  have ngs : (gs.length : Int) ≤ 100 := by omega
  clear st4
  walk_at "*"
  refine go_iL (.of (st5.get (.head _))) ?_
  refine LcW.sta (walk_emb (xs := os) (emb := fun x => V.ref x.1)) (fun i ys F' L' => ∃ rs : RS, ys = rs.map (fun r => V.ref r.1) ∧ rs.map (fun r => r.2.2) = (os.take i).map (fun x => x.2.2) ∧ RsF F' rs ∧ Same F5 F' ∧ L' = ((od, .lst (os.map fun x => V.ref x.1)) :: (fd, .frz ofz (.dK (kvS ps))) :: (clS K ps ++ R))) (by omega) st5 ⟨[], rfl, by rw [List.take_zero]; rfl, (fun _ m => nomatch m), .refl _, rfl⟩ (fun i ys F' L H' _ st' ⟨_, _, _, _, _, e⟩ => .of (by subst e; exact st'.get (.head _))) ?_ ?_
  · rintro A i v ys F6 L' H6 H7 hi hl st6 ⟨rs, rfl, ers, hrs, s6, rfl⟩ ⟨rfl, ey⟩ yes no hy hno
    have ex : os[i]? = some os[i] := List.getElem?_eq_getElem hi
    have mo : os[i] ∈ os := List.getElem_mem hi
    have et : (os.take (i + 1)).map (fun x => x.2.2) = (os.take i).map (fun x => x.2.2) ++ [os[i].2.2] := by rw [List.take_add_one, ex, List.map_append]; rfl
    rw [List.getElem?_map, ex] at ey
    generalize os[i] = o at *
    obtain ⟨q, a, z, x⟩ := o
    have ey := (Option.some.inj ey).symm
    subst ey
    have mp := pos _ mo
    have eq := s6 _ _ (hos _ mo)
    clear st5
    refine go_gtup (.of (st6.of eq)) rfl (go_gcons (go_name rfl (go_gcons (go_name rfl (go_gnil ⟨rfl, ?_⟩)))))
    have S6 := StH_of (K := K) st6 (fun c m => .tail _ (.tail _ (.tail _ (List.mem_append_left _ m)))) mp
    have sp := S6.p
    walk_at "*"
    rename_i t7 F7 H7 s7 e7 st7
    have S7 := StH_of (K := K) st7 (fun c m => .tail _ (.tail _ (.tail _ (List.mem_append_left _ m)))) mp
    have sp7 := S7.p
    clear st6 sp
    walk_at "*"
    refine go_tupL (.of S7.tl) ?_
    refine go_newF st7 fun t8 F8 H8 s8 e8 st8 => ?_
    refine go_addT (.of (st8.of (s8 _ _ e7))) (.of (st8.of e8)) (szl (Nat.le_of_ble_eq_true rfl)) ?_
    refine go_newF st8 fun t9 F9 H9 s9 e9 st9 => ?_
    have S9 := StH_of (K := K) st9 (fun c m => .tail _ (.tail _ (.tail _ (List.mem_append_left _ m)))) mp
    have sp9 := S9.p
    clear st7 st8 sp7
    walk_at "*"
    refine go_sp1 ⟨a, x, _, rfl, S9, okps _ _ _ mp, ngs, ?_⟩
    refine go_newF st9 fun ta Fa Ha sa ea sta => ?_
    clear st9 sp9
    walk_at "*"
    rename_i tb Fb Hb sb eb stb
    refine go_addT (.of (stb.of ((sa.trans sb) _ _ e9))) (.of (stb.of eb)) (szl (Nat.le_of_ble_eq_true rfl)) ?_
    refine go_newF stb fun tc Fc Hc sc ec stc => ?_
    refine hy _ Fc _ _ stc ⟨rs ++ [(tc, ta, z, x)], by rw [List.map_append]; rfl, by rw [et, List.map_append, ers]; rfl, ?_, s6.trans (s7.trans (s8.trans (s9.trans (sa.trans (sb.trans sc))))), rfl⟩
    intro r mr
    rcases List.mem_append.mp mr with mr | mr
    · exact ⟨(s7.trans (s8.trans (s9.trans (sa.trans (sb.trans sc))))) _ _ (hrs r mr).1, (s7.trans (s8.trans (s9.trans (sa.trans (sb.trans sc))))) _ _ (hrs r mr).2⟩
    · rw [List.mem_singleton.mp mr]
      exact ⟨ec, (sb.trans sc) _ _ ea⟩
  rintro A ys F6 L H6 st6 - ⟨rs, rfl, ers, hrs, s6, rfl⟩
  rw [List.take_of_length_le (Nat.le_refl _), eos] at ers
  refine hq A rs F6 _ ers hrs (s2.trans (s5.trans s6)) ?_
  exact Sta.left (R := (od, .lst (os.map fun x => V.ref x.1)) :: (fd, .frz ofz (.dK (kvS ps))) :: clS K ps) (st6.perm (.cons _ (by
    have := List.perm_append_comm (l₁ := (od, HO.lst (os.map fun x => V.ref x.1)) :: (fd, .frz ofz (.dK (kvS ps))) :: clS K ps) (l₂ := R)
    exact this)))

theorem insGet {os : List TP} {t : TP} {n k : Nat} (hn : n ≤ os.length) : (os.take n ++ [t] ++ os.drop n)[k]? = if k < n then os[k]? else if k = n then some t else os[k - 1]? := by
  have lt : (os.take n).length = n := by rw [List.length_take]; omega
  rw [List.append_assoc]
  by_cases h1 : k < n
  · rw [if_pos h1, List.getElem?_append_left (by omega), List.getElem?_take, if_pos h1]
  · rw [if_neg h1, List.getElem?_append_right (by omega), lt]
    by_cases h2 : k = n
    · rw [if_pos h2, h2, Nat.sub_self]; rfl
    · rw [if_neg h2]
      obtain ⟨j, rfl⟩ : ∃ j, k = n + 1 + j := ⟨k - n - 1, by omega⟩
      rw [show n + 1 + j - n = j + 1 by omega, show n + 1 + j - 1 = n + j by omega]
      show (os.drop n)[j]? = _
      rw [List.getElem?_drop]
theorem stop_spec {bs : List Str} {t : TP} {os : List TP} : ∀ m, m ≤ os.length → (∀ k o, stopAt bs t os m ≤ k → k < m → os[k]? = some o → gah bs t o = true) ∧ (∀ n o, stopAt bs t os m = n + 1 → os[n]? = some o → gah bs t o = false)
  | 0, _ => ⟨fun k o _ h _ => by omega, fun n o h _ => by cases h⟩
  | m + 1, h => by
    have eo : os[m]? = some os[m] := List.getElem?_eq_getElem (by omega)
    by_cases c : gah bs t os[m] = true
    · have e : stopAt bs t os (m + 1) = stopAt bs t os m := by
        rw [stopAt, eo]; exact if_pos c
      obtain ⟨i1, i2⟩ := stop_spec (bs := bs) (t := t) (os := os) m (by omega)
      rw [e]
      refine ⟨fun k o h1 h2 h3 => ?_, i2⟩
      by_cases hk : k = m
      · rw [hk, eo] at h3
        rw [← Option.some.inj h3]; exact c
      · exact i1 k o h1 (by omega) h3
    · have e : stopAt bs t os (m + 1) = m + 1 := by
        rw [stopAt, eo]; exact if_neg c
      rw [e]
      refine ⟨fun k o h1 h2 _ => by omega, fun n o h1 h2 => ?_⟩
      obtain rfl : m = n := by omega
      rw [eo] at h2
      rw [← Option.some.inj h2]
      exact Bool.not_eq_true _ ▸ c
/-- a stands ahead of b by the breakers, or else by its place -/
def Ah (bs : List Str) (ts : List TP) (a b : TP) : Prop := ∃ i j : Nat, ts[i]? = some a ∧ ts[j]? = some b ∧ (ahO a.1 a.2 b.1 b.2 bs).getD (decide (i < j)) = true
theorem Ah.snoc {bs : List Str} {ts : List TP} {a b t : TP} (h : Ah bs ts a b) : Ah bs (ts ++ [t]) a b := by
  obtain ⟨i, j, h1, h2, h3⟩ := h
  have l1 := (List.getElem?_eq_some_iff.mp h1).1
  have l2 := (List.getElem?_eq_some_iff.mp h2).1
  exact ⟨i, j, by rw [List.getElem?_append_left l1]; exact h1, by rw [List.getElem?_append_left l2]; exact h2, h3⟩
theorem insAll_adj {bs : List Str} : ∀ ts : List TP, (ts.map Prod.fst).Nodup → ∀ k a b, (insAll bs ts)[k]? = some a → (insAll bs ts)[k + 1]? = some b → Ah bs ts a b := rev_ind (fun _ k a b h _ => by cases h) fun ts t ih nd k a b ha hb => by
  rw [List.map_append, List.nodup_append] at nd
  have ih := ih nd.1
  have ne : ∀ o ∈ insAll bs ts, o.1 ≠ t.1 := fun o m => nd.2.2 _ (List.mem_map_of_mem ((insAll_perm ts).mem_iff.mp m)) _ (by simp)
  have pos : ∀ o ∈ insAll bs ts, ∃ i, ts[i]? = some o ∧ i < ts.length := fun o m => by
    obtain ⟨i, hi, e⟩ := List.mem_iff_getElem.mp ((insAll_perm ts).mem_iff.mp m)
    exact ⟨i, by rw [← e]; exact List.getElem?_eq_getElem hi, hi⟩
  have et : (ts ++ [t])[ts.length]? = some t := by rw [List.getElem?_append_right (Nat.le_refl _), Nat.sub_self]; rfl
  have below : ∀ o, o ∈ insAll bs ts → gah bs t o = true → Ah bs (ts ++ [t]) t o := fun o m g => by
    obtain ⟨i, e, l⟩ := pos o m
    refine ⟨ts.length, i, et, by rw [List.getElem?_append_left l]; exact e, ?_⟩
    unfold gah at g
    cases c : ahO t.1 t.2 o.1 o.2 bs with
    | none => rw [c] at g; cases g
    | some v => rw [c] at g; exact g
  have above : ∀ o, o ∈ insAll bs ts → gah bs t o = false → Ah bs (ts ++ [t]) o t := fun o m g => by
    obtain ⟨i, e, l⟩ := pos o m
    refine ⟨i, ts.length, by rw [List.getElem?_append_left l]; exact e, et, ?_⟩
    unfold gah at g
    rw [ahO_sym (ne o m)]
    cases c : ahO t.1 t.2 o.1 o.2 bs with
    | none => exact decide_eq_true l
    | some v => rw [c] at g; rw [show v = false from g]; rfl
  rw [insAll_snoc] at ha hb
  unfold insT at ha hb
  obtain ⟨s1, s2⟩ := stop_spec (bs := bs) (t := t) (os := insAll bs ts) _ (Nat.le_refl _)
  have hn := stopAt_le (bs := bs) (t := t) (os := insAll bs ts) (insAll bs ts).length
  generalize stopAt bs t (insAll bs ts) (insAll bs ts).length = n at *
  rw [insGet hn] at ha hb
  by_cases h1 : k + 1 < n
  · rw [if_pos (by omega)] at ha
    rw [if_pos h1] at hb
    exact (ih k a b ha hb).snoc
  by_cases h2 : k + 1 = n
  · rw [if_pos (by omega)] at ha
    rw [if_neg h1, if_pos h2] at hb
    obtain rfl := Option.some.inj hb
    exact above a (List.mem_of_getElem? ha) (s2 k a h2.symm ha)
  rw [if_neg h1, if_neg h2, Nat.add_sub_cancel] at hb
  by_cases h3 : k = n
  · rw [if_neg (by omega), if_pos h3] at ha
    obtain rfl := Option.some.inj ha
    exact below b (List.mem_of_getElem? hb) (s1 k b (by omega) (List.getElem?_eq_some_iff.mp hb).1 hb)
  · rw [if_neg (by omega), if_neg h3] at ha
    obtain ⟨j, rfl⟩ : ∃ j, k = j + 1 := ⟨k - 1, by omega⟩
    rw [Nat.add_sub_cancel] at ha
    exact (ih j a b ha hb).snoc


/-! sorted(xs), xs a list of alike data -/
def rSortedDat (K : PySem.W.Frag) : List V → Hp → VK → Prop := fun vs H Q => ∃ (a : Addr) (ps : List (V × PyData)), vs = [V.ref a] ∧ SqL K H a (ps.map Prod.fst) ∧ (∀ p ∈ ps, Dp K H p.1 p.2) ∧ PySem.W.AllAlike (ps.map Prod.snd) ∧ PySem.W.Sortable (ps.map Prod.snd) ∧ (∀ p ∈ ps, p.2.depth ≤ 60) ∧
  ∀ p, H p = none → Q (.ref p) (upd H p (.lst ((ps.mergeSort (PySem.W.dataLe false Prod.snd)).map Prod.fst)))
theorem each_of_vals : ∀ {ps : List (V × PyData)} {us : List Value}, Vals (ps.map Prod.fst) us → PySem.W.EachIs (fun u p => RelV p.1 u) us ps
  | [], _, r => by
    have r : Vals [] _ := r
    cases r
    exact .nil
  | p :: ps, _, r => by
    have r : Vals (p.1 :: ps.map Prod.fst) _ := r
    cases r with
    | cons h t => exact .cons h (each_of_vals t)
theorem vals_of_each : ∀ {ps : List (V × PyData)} {us : List Value}, PySem.W.EachIs (fun u p => RelV p.1 u) us ps → Vals (ps.map Prod.fst) us
  | _, _, .nil => .nil
  | _, _, .cons h t => .cons h (vals_of_each t)
theorem each_with {R S : Value → V × PyData → Prop} : ∀ {ps : List (V × PyData)} {us : List Value}, PySem.W.EachIs R us ps → (∀ p ∈ ps, ∀ u, R u p → S u p) → PySem.W.EachIs S us ps
  | _, _, .nil, _ => .nil
  | _, _, .cons h t, f => .cons (f _ (.head _) _ h) (each_with t fun p m => f p (.tail _ m))
section
variable {X : Cx}
theorem cr_sortedDat (hu : X.A.units + 64 < cLine) : CallR X (.builtin "sorted") (rSortedDat X.K) := by
  intro pins s σ H vs us Q I r h
  obtain ⟨a, ps, rfl, hs, hd, hal, hk, hdep, q⟩ := h
  obtain ⟨its, rv, hl, hz⟩ := I.list hs
  rw [Vals.ref1 r]
  have e := each_of_vals rv
  have er : PySem.W.EachIs (fun u b => ∃ as, Reads s.heap u (Prod.snd b) as) its ps := each_with e fun p m u hu => Dp.reads I p.2 p.1 u (hd p m) hu
  rw [List.length_map] at hz
  refine PySem.W.sorted_data (R := fun u p => RelV p.1 u) (enc := Prod.snd) hl.isList e er hal hk hz (fun b hb => ?_) fun out ho h2 => ?_
  · have := hdep b hb
    omega
  · obtain ⟨ep, he'⟩ := PyProof.Rows.sortedAll_at s.heap its out.toArray
    have hlen : ((ps.mergeSort (PySem.W.dataLe false Prod.snd)).map Prod.fst).length ≤ sizeLine := by rw [List.length_map, (List.mergeSort_perm _ _).length_eq]; exact hz
    exact ⟨.ref _, upd H (s.heap.objs.size + 1) (.lst ((ps.mergeSort (PySem.W.dataLe false Prod.snd)).map Prod.fst)), I.laid (t' := s.toks) (fun _ _ => PyProof.Rows.sortedAll_old) (Nat.le_succ _) ⟨hlen, out, ep, vals_of_each h2, he'⟩, rfl, q _ (I.hok.fresh (Nat.le_succ _))⟩
end


/-! sums over a table -/
def sumK (f : SV → Int) (t : List (Str × SV)) : Int := (t.map fun p => f p.2).sum
theorem sumK_upd {φ : SV → Int} {f : SV → SV} {d : Int} (h0 : φ SV.zero = 0) (hf : ∀ x, φ (f x) = φ x + d) {k : Str} : ∀ t : List (Str × SV), sumK φ (updK SV.zero f k t) = sumK φ t + d
  | [] => by
    show φ (f SV.zero) + 0 = 0 + d
    rw [hf, h0]; omega
  | p :: r => by
    have ih := sumK_upd (k := k) h0 hf r
    by_cases c : p.1 = k
    · have e : updK SV.zero f k (p :: r) = (k, f p.2) :: r := if_pos c
      rw [e]
      show φ (f p.2) + sumK φ r = φ p.2 + sumK φ r + d
      rw [hf]; omega
    · have e : updK SV.zero f k (p :: r) = p :: updK SV.zero f k r := if_neg c
      rw [e]
      show φ p.2 + sumK φ (updK SV.zero f k r) = φ p.2 + sumK φ r + d
      rw [ih]; omega
theorem sum_tab {φ : SV → Int} {p0 p1 p2 : Int} (d : Int → Int → Int) (h0 : φ SV.zero = 0) (hf : ∀ r s n m x, φ (SV.take p0 p1 p2 r s n m x) = φ x + d r s) : ∀ gs : List LG, sumK φ (tabG p0 p1 p2 gs) = (gs.map fun g => d g.r g.s + d g.s g.r).sum := rev_ind rfl fun gs g ih => by
  rw [tabG_snoc, sumK_upd h0 (fun x => hf _ _ _ _ x), sumK_upd h0 (fun x => hf _ _ _ _ x), ih, List.map_append, List.sum_append]
  show _ = _ + (d g.r g.s + d g.s g.r + 0)
  omega
theorem sumK_perm {φ : SV → Int} {s t : List (Str × SV)} (h : s.Perm t) : sumK φ s = sumK φ t := by
  unfold sumK
  induction h with
  | nil => rfl
  | cons x _ ih => simp only [List.map_cons, List.sum_cons, ih]
  | swap x y l => simp only [List.map_cons, List.sum_cons]; omega
  | trans _ _ h1 h2 => exact h1.trans h2
theorem sum_w {p0 p1 p2 : Int} (gs : List LG) : sumK SV.w (tabG p0 p1 p2 gs) = (gs.map fun g => if g.r = g.s then (0 : Int) else 1).sum := by
  rw [sum_tab (φ := SV.w) (fun r s => if r = s then 0 else if r < s then 0 else 1) rfl (fun r s n m x => rfl)]
  congr 1
  refine List.map_congr_left fun g _ => ?_
  by_cases c : g.r = g.s
  · rw [if_pos c, if_pos c, if_pos c.symm]; rfl
  · rw [if_neg c, if_neg c, if_neg (Ne.symm c)]
    by_cases h : g.r < g.s
    · rw [if_pos h, if_neg (by omega)]; rfl
    · rw [if_neg h, if_pos (by omega)]; rfl
theorem sum_l {p0 p1 p2 : Int} (gs : List LG) : sumK SV.l (tabG p0 p1 p2 gs) = (gs.map fun g => if g.r = g.s then (0 : Int) else 1).sum := by
  rw [sum_tab (φ := SV.l) (fun r s => if r = s then 0 else if r < s then 1 else 0) rfl (fun r s n m x => rfl)]
  congr 1
  refine List.map_congr_left fun g _ => ?_
  by_cases c : g.r = g.s
  · rw [if_pos c, if_pos c, if_pos c.symm]; rfl
  · rw [if_neg c, if_neg c, if_neg (Ne.symm c)]
    by_cases h : g.r < g.s
    · rw [if_pos h, if_neg (by omega)]; rfl
    · rw [if_neg h, if_pos (by omega)]; rfl
theorem sum_t {p0 p1 p2 : Int} (gs : List LG) : sumK SV.t (tabG p0 p1 p2 gs) = 2 * ((gs.filter fun g => decide (g.r = g.s)).length : Int) := by
  rw [sum_tab (φ := SV.t) (fun r s => if r = s then 1 else 0) rfl (fun r s n m x => rfl)]
  induction gs with
  | nil => rfl
  | cons g r ih =>
    rw [List.map_cons, List.sum_cons, ih, List.filter_cons]
    by_cases c : g.r = g.s
    · rw [if_pos c, if_pos c.symm, if_pos (decide_eq_true c), List.length_cons]; omega
    · rw [if_neg c, if_neg (Ne.symm c), if_neg (by simp [c])]; omega
theorem sum_p {p0 p1 p2 : Int} (gs : List LG) : sumK SV.pts (tabG p0 p1 p2 gs) = (gs.map fun g => if g.r = g.s then 2 * p1 else p0 + p2).sum := by
  rw [sum_tab (φ := SV.pts) (fun r s => if r = s then p1 else if r < s then p2 else p0) rfl (fun r s n m x => rfl)]
  congr 1
  refine List.map_congr_left fun g _ => ?_
  by_cases c : g.r = g.s
  · rw [if_pos c, if_pos c, if_pos c.symm]; omega
  · rw [if_neg c, if_neg c, if_neg (Ne.symm c)]
    by_cases h : g.r < g.s
    · rw [if_pos h, if_neg (by omega)]; omega
    · rw [if_neg h, if_pos (by omega)]
/-! games turned about -/
def SV.add (x y : SV) : SV := ⟨x.pts + y.pts, x.w + y.w, x.t + y.t, x.l + y.l, x.r0 + y.r0, x.r1 + y.r1, x.b0 + y.b0, x.b1 + y.b1⟩
theorem SV.ext' {x y : SV} (h1 : x.pts = y.pts) (h2 : x.w = y.w) (h3 : x.t = y.t) (h4 : x.l = y.l) (h5 : x.r0 = y.r0) (h6 : x.r1 = y.r1) (h7 : x.b0 = y.b0) (h8 : x.b1 = y.b1) : x = y := by
  cases x; cases y; simp_all
theorem SV.add_comm (x y : SV) : x.add y = y.add x := by unfold SV.add; simp only [Int.add_comm]
theorem SV.add_left (x y z : SV) : x.add (y.add z) = y.add (x.add z) := by unfold SV.add; simp only [Int.add_left_comm]
theorem SV.add_assoc (x y z : SV) : (x.add y).add z = x.add (y.add z) := by unfold SV.add; simp only [Int.add_assoc]
theorem SV.add_zero (x : SV) : x.add SV.zero = x := by unfold SV.add; simp only [Int.add_zero]
theorem take_add {p0 p1 p2 r s n m : Int} (x : SV) : x.take p0 p1 p2 r s n m = x.add (SV.zero.take p0 p1 p2 r s n m) := by
  unfold SV.take SV.add
  simp only [Int.zero_add]
def sumSV : List SV → SV
  | [] => SV.zero
  | x :: r => x.add (sumSV r)
theorem sumSV_perm {xs ys : List SV} (h : xs.Perm ys) : sumSV xs = sumSV ys := by
  induction h with
  | nil => rfl
  | cons x _ ih => show SV.add _ _ = SV.add _ _; rw [ih]
  | swap x y l => exact SV.add_left _ _ _
  | trans _ _ h1 h2 => exact h1.trans h2
def ctG (p0 p1 p2 : Int) (z : Str) (g : LG) : SV := if z = g.b then SV.zero.take p0 p1 p2 g.s g.r g.m g.n else if z = g.a then SV.zero.take p0 p1 p2 g.r g.s g.n g.m else SV.zero
theorem hasG_sum {p0 p1 p2 : Int} {z : Str} : ∀ gs : List LG, (∀ g ∈ gs, g.a ≠ g.b) → hasG p0 p1 p2 gs z = sumSV (gs.map (ctG p0 p1 p2 z)) := rev_ind (fun _ => rfl) fun gs g ih h => by
  have ih := ih fun x m => h x (List.mem_append_left _ m)
  have ne := h g (by simp)
  rw [hasG_snoc, ih, List.map_append, sumSV_perm (List.perm_append_comm (l₁ := gs.map _))]
  show _ = (ctG p0 p1 p2 z g).add (sumSV _)
  rw [SV.add_comm]
  unfold ctG
  by_cases c1 : z = g.b
  · have c2 : z ≠ g.a := fun e => ne (e.symm.trans c1)
    rw [if_pos c1, if_pos c1, if_neg c2]
    exact take_add _
  · rw [if_neg c1, if_neg c1]
    by_cases c2 : z = g.a
    · rw [if_pos c2, if_pos c2]
      exact take_add _
    · rw [if_neg c2, if_neg c2]
      exact (SV.add_zero _).symm
def turnG (g : LG) : LG := ⟨g.b, g.s, g.m, g.a, g.r, g.n⟩
theorem ctG_turn {p0 p1 p2 : Int} {z : Str} {g : LG} (ne : g.a ≠ g.b) : ctG p0 p1 p2 z (turnG g) = ctG p0 p1 p2 z g := by
  unfold ctG turnG
  dsimp only
  by_cases c1 : z = g.b
  · have c2 : z ≠ g.a := fun e => ne (e.symm.trans c1)
    rw [if_neg c2, if_pos c1, if_pos c1]
  · rw [if_neg c1, if_neg c1]
theorem hasG_turn {p0 p1 p2 : Int} {z : Str} {gs : List LG} (h : ∀ g ∈ gs, g.a ≠ g.b) : hasG p0 p1 p2 (gs.reverse.map turnG) z = hasG p0 p1 p2 gs z := by
  rw [hasG_sum _ h, hasG_sum]
  · rw [List.map_map, show gs.reverse.map (ctG p0 p1 p2 z ∘ turnG) = gs.reverse.map (ctG p0 p1 p2 z) from List.map_congr_left fun g m => ctG_turn (h g (List.mem_reverse.mp m))]
    exact sumSV_perm ((List.reverse_perm gs).map _)
  · intro g m
    obtain ⟨x, mx, rfl⟩ := List.mem_map.mp m
    exact Ne.symm (h x (List.mem_reverse.mp mx))
theorem inG_turn {gs : List LG} {z : Str} : inG (gs.reverse.map turnG) z ↔ inG gs z := by
  unfold inG
  constructor
  · rintro ⟨g, m, e⟩
    obtain ⟨x, mx, rfl⟩ := List.mem_map.mp m
    exact ⟨x, List.mem_reverse.mp mx, e.symm⟩
  · rintro ⟨g, m, e⟩
    exact ⟨turnG g, List.mem_map_of_mem (List.mem_reverse.mpr m), e.symm⟩
theorem perm_of_nodup : ∀ {xs ys : List Str}, xs.Nodup → ys.Nodup → (∀ z, z ∈ xs ↔ z ∈ ys) → xs.Perm ys
  | [], ys, _, _, h => by
    cases ys with
    | nil => exact .refl _
    | cons y r => exact absurd ((h y).mpr (.head _)) (by simp)
  | x :: r, ys, n1, n2, h => by
    have hx : x ∈ ys := (h x).mp (.head _)
    have p := List.perm_cons_erase hx
    have n3 := (p.nodup_iff).mp n2
    refine (List.Perm.cons x (perm_of_nodup (List.nodup_cons.mp n1).2 (List.nodup_cons.mp n3).2 fun z => ?_)).trans p.symm
    constructor
    · intro m
      have ne : z ≠ x := fun e => (List.nodup_cons.mp n1).1 (e ▸ m)
      exact (List.mem_erase_of_ne ne).mpr ((h z).mp (.tail _ m))
    · intro m
      have ne : z ≠ x := fun e => (List.nodup_cons.mp n3).1 (e ▸ m)
      rcases List.mem_cons.mp ((h z).mpr (List.mem_of_mem_erase m)) with e | m2
      · exact absurd e ne
      · exact m2
theorem ordK_nd' {ks : List Str} : (ordK ks).Nodup := ordK_nd
theorem tab_turn {p0 p1 p2 : Int} {gs : List LG} (h : ∀ g ∈ gs, g.a ≠ g.b) : (tabG p0 p1 p2 (gs.reverse.map turnG)).Perm (tabG p0 p1 p2 gs) := by
  rw [tabG_eq, tabG_eq, show (fun z => (z, hasG p0 p1 p2 (gs.reverse.map turnG) z)) = fun z => (z, hasG p0 p1 p2 gs z) from funext fun z => by rw [hasG_turn h]]
  refine List.Perm.map _ (perm_of_nodup ordK_nd ordK_nd fun z => ?_)
  rw [ordK_mem, ordK_mem, keysG, keysG]
  exact inG_turn


/-! where the name breaks ties, there is one order -/
theorem rate_tr {a1 d1 a2 d2 a3 d3 : Int} (h1 : 0 < d1) (h2 : 0 < d2) (h3 : 0 < d3) :
    (a2 * d1 ≤ a1 * d2 → a3 * d2 ≤ a2 * d3 → a3 * d1 ≤ a1 * d3) ∧ (a2 * d1 < a1 * d2 → a3 * d2 ≤ a2 * d3 → a3 * d1 < a1 * d3) ∧ (a2 * d1 ≤ a1 * d2 → a3 * d2 < a2 * d3 → a3 * d1 < a1 * d3) := by
  have e1 : d2 * (a3 * d1) = a3 * d2 * d1 := by rw [Int.mul_left_comm, ← Int.mul_assoc]
  have e2 : a2 * d3 * d1 = a2 * d1 * d3 := by rw [Int.mul_assoc, Int.mul_comm d3 d1, ← Int.mul_assoc]
  have e3 : a1 * d2 * d3 = d2 * (a1 * d3) := by rw [Int.mul_comm a1 d2, Int.mul_assoc]
  refine ⟨fun p q => ?_, fun p q => ?_, fun p q => ?_⟩
  · refine Int.le_of_mul_le_mul_left (a := d2) ?_ h2
    have u := Int.mul_le_mul_of_nonneg_right q (Int.le_of_lt h1)
    have v := Int.mul_le_mul_of_nonneg_right p (Int.le_of_lt h3)
    omega
  · refine Int.lt_of_mul_lt_mul_left (a := d2) ?_ (Int.le_of_lt h2)
    have u := Int.mul_le_mul_of_nonneg_right q (Int.le_of_lt h1)
    have v := Int.mul_lt_mul_of_pos_right p h3
    omega
  · refine Int.lt_of_mul_lt_mul_left (a := d2) ?_ (Int.le_of_lt h2)
    have u := Int.mul_lt_mul_of_pos_right q h1
    have v := Int.mul_le_mul_of_nonneg_right p (Int.le_of_lt h3)
    omega
theorem brL_tr {b : Str} {x y z : SV} (h1 : 0 < x.parts / x.by_) (h2 : 0 < y.parts / y.by_) (h3 : 0 < z.parts / z.by_) :
    (brL b y x ≤ brL b x y → brL b z y ≤ brL b y z → brL b z x ≤ brL b x z) ∧ (brL b y x < brL b x y → brL b z y ≤ brL b y z → brL b z x < brL b x z) ∧ (brL b y x ≤ brL b x y → brL b z y < brL b y z → brL b z x < brL b x z) := by
  unfold brL
  by_cases c1 : b = "runs"
  · simp only [if_pos c1]
    exact ⟨by omega, by omega, by omega⟩
  simp only [if_neg c1]
  by_cases c2 : b = "rate"
  · simp only [if_pos c2]
    exact rate_tr h1 h2 h3
  · simp only [if_neg c2]
    exact ⟨by omega, by omega, by omega⟩
theorem brk_true {b z1 z2 : Str} {x y : SV} (nb : b ≠ "name") : brk b z1 x z2 y = some true ↔ brL b y x < brL b x y := by
  unfold brk
  rw [if_neg nb]
  by_cases c : brL b x y = brL b y x
  · rw [if_pos c]
    exact ⟨(fun h => nomatch h), fun h => by omega⟩
  · rw [if_neg c]
    exact ⟨fun h => of_decide_eq_true (Option.some.inj h), fun h => by rw [decide_eq_true h]⟩
theorem brk_none {b z1 z2 : Str} {x y : SV} (nb : b ≠ "name") : brk b z1 x z2 y = none ↔ brL b x y = brL b y x := by
  unfold brk
  rw [if_neg nb]
  by_cases c : brL b x y = brL b y x
  · rw [if_pos c]
    exact ⟨fun _ => c, fun _ => rfl⟩
  · rw [if_neg c]
    exact ⟨(fun h => nomatch h), fun h => absurd h c⟩
theorem brk_name {z1 z2 : Str} {x y : SV} : brk "name" z1 x z2 y = some (decide (z1.cps.toList < z2.cps.toList)) := if_pos rfl
theorem ahB_tr {z1 z2 z3 : Str} {x y z : SV} (h1 : 0 < x.parts / x.by_) (h2 : 0 < y.parts / y.by_) (h3 : 0 < z.parts / z.by_) : ∀ bs : List Str, ahB z1 x z2 y bs = some true → ahB z2 y z3 z bs = some true → ahB z1 x z3 z bs = some true
  | [], h, _ => nomatch h
  | b :: r, p, q => by
    unfold ahB at p q ⊢
    by_cases nb : b = "name"
    · subst nb
      rw [brk_name] at p q ⊢
      have p := of_decide_eq_true (Option.some.inj p)
      have q := of_decide_eq_true (Option.some.inj q)
      show some _ = _
      rw [decide_eq_true (List.lt_trans p q)]
    obtain ⟨t1, t2, t3⟩ := brL_tr (b := b) h1 h2 h3
    cases e1 : brk b z1 x z2 y with
    | none =>
      rw [e1] at p
      have e1 := (brk_none nb).mp e1
      cases e2 : brk b z2 y z3 z with
      | none =>
        rw [e2] at q
        have e2 := (brk_none nb).mp e2
        obtain ⟨u1, -, -⟩ := brL_tr (b := b) h3 h2 h1
        have e3 := (brk_none (z1 := z1) (z2 := z3) nb).mpr (Int.le_antisymm (u1 (by omega) (by omega)) (t1 (by omega) (by omega)))
        rw [e3]
        exact ahB_tr h1 h2 h3 r p q
      | some v =>
        rw [e2] at q
        obtain rfl : v = true := Option.some.inj q
        rw [(brk_true (z1 := z1) (z2 := z3) nb).mpr (t3 (by omega) ((brk_true nb).mp e2))]
    | some v =>
      rw [e1] at p
      obtain rfl : v = true := Option.some.inj p
      have e1 := (brk_true nb).mp e1
      cases e2 : brk b z2 y z3 z with
      | none =>
        have e2 := (brk_none nb).mp e2
        rw [(brk_true (z1 := z1) (z2 := z3) nb).mpr (t2 e1 (by omega))]
      | some v =>
        rw [e2] at q
        obtain rfl : v = true := Option.some.inj q
        have e2 := (brk_true nb).mp e2
        rw [(brk_true (z1 := z1) (z2 := z3) nb).mpr (t2 e1 (by omega))]
theorem ahO_tr {z1 z2 z3 : Str} {x y z : SV} {bs : List Str} (h1 : 0 < x.parts / x.by_) (h2 : 0 < y.parts / y.by_) (h3 : 0 < z.parts / z.by_) (p : ahO z1 x z2 y bs = some true) (q : ahO z2 y z3 z bs = some true) : ahO z1 x z3 z bs = some true := by
  unfold ahO at p q ⊢
  by_cases c1 : x.pts = y.pts
  · rw [if_pos c1] at p
    by_cases c2 : y.pts = z.pts
    · rw [if_pos c2] at q
      rw [if_pos (c1.trans c2)]
      exact ahB_tr h1 h2 h3 bs p q
    · rw [if_neg c2] at q
      have q := of_decide_eq_true (Option.some.inj q)
      rw [if_neg (by omega), decide_eq_true (by omega)]
  · rw [if_neg c1] at p
    have p := of_decide_eq_true (Option.some.inj p)
    by_cases c2 : y.pts = z.pts
    · rw [if_neg (by omega), decide_eq_true (by omega)]
    · rw [if_neg c2] at q
      have q := of_decide_eq_true (Option.some.inj q)
      rw [if_neg (by omega), decide_eq_true (by omega)]
theorem ahB_name {z1 z2 : Str} {x y : SV} : ∀ {bs : List Str}, ("name" : Str) ∈ bs → ahB z1 x z2 y bs ≠ none
  | [], m, _ => nomatch m
  | b :: r, m, h => by
    unfold ahB at h
    cases e : brk b z1 x z2 y with
    | some v => rw [e] at h; cases h
    | none =>
      rw [e] at h
      rcases List.mem_cons.mp m with rfl | m
      · rw [brk_name] at e; cases e
      · exact ahB_name m h
theorem Ah.at_name {bs : List Str} {ts : List TP} {a b : TP} (m : ("name" : Str) ∈ bs) (h : Ah bs ts a b) : ahO a.1 a.2 b.1 b.2 bs = some true := by
  obtain ⟨i, j, -, -, h⟩ := h
  cases e : ahO a.1 a.2 b.1 b.2 bs with
  | some v => rw [e] at h; rw [show v = true from h]
  | none =>
    unfold ahO at e
    by_cases c : a.2.pts = b.2.pts
    · rw [if_pos c] at e; exact absurd e (ahB_name m)
    · rw [if_neg c] at e; cases e
theorem chain_pw {R : TP → TP → Prop} : ∀ L : List TP, (∀ a ∈ L, ∀ b ∈ L, ∀ c ∈ L, R a b → R b c → R a c) → (∀ k a b, L[k]? = some a → L[k + 1]? = some b → R a b) → L.Pairwise R
  | [], _, _ => .nil
  | [a], _, _ => .cons (fun _ m => nomatch m) .nil
  | a :: b :: r, tr, ad => by
    have ih := chain_pw (b :: r) (fun x mx y my z mz => tr x (.tail _ mx) y (.tail _ my) z (.tail _ mz)) fun k x y hx hy => ad (k + 1) x y hx hy
    have ab := ad 0 a b rfl rfl
    refine .cons (fun c m => ?_) ih
    rcases List.mem_cons.mp m with rfl | m
    · exact ab
    · exact tr a (.head _) b (.tail _ (.head _)) c (.tail _ (.tail _ m)) ab ((List.pairwise_cons.mp ih).1 c m)
theorem pw_one {R : TP → TP → Prop} : ∀ {L M : List TP}, L.Perm M → (∀ a ∈ L, ∀ b ∈ L, a ≠ b → R a b → ¬ R b a) → L.Pairwise R → M.Pairwise R → L = M
  | [], M, p, _, _, _ => by rw [List.nil_perm.mp p]
  | x :: r, [], p, _, _, _ => by cases List.perm_nil.mp p
  | x :: r, y :: t, p, as, h1, h2 => by
    have e : x = y := Classical.byContradiction fun ne => by
      have my : y ∈ r := by
        rcases List.mem_cons.mp (p.mem_iff.mpr (.head _)) with e | m
        · exact absurd e.symm ne
        · exact m
      have mx : x ∈ t := by
        rcases List.mem_cons.mp (p.mem_iff.mp (.head _)) with e | m
        · exact absurd e ne
        · exact m
      exact as x (.head _) y (.tail _ my) ne ((List.pairwise_cons.mp h1).1 y my) ((List.pairwise_cons.mp h2).1 x mx)
    subst e
    rw [pw_one ((List.perm_cons x).mp p) (fun a ma b mb => as a (.tail _ ma) b (.tail _ mb)) (List.pairwise_cons.mp h1).2 (List.pairwise_cons.mp h2).2]
theorem nd_eq {ts : List TP} (nd : (ts.map Prod.fst).Nodup) {a b : TP} (ma : a ∈ ts) (mb : b ∈ ts) (e : a.1 = b.1) : a = b := by
  obtain ⟨i, hi, rfl⟩ := List.mem_iff_getElem.mp ma
  obtain ⟨j, hj, rfl⟩ := List.mem_iff_getElem.mp mb
  by_cases h : i = j
  · subst h; rfl
  · exfalso
    refine nd_at nd (i := i) (j := j) (x := ts[i].1) (y := ts[j].1) ?_ ?_ h e
    · rw [List.getElem?_map, List.getElem?_eq_getElem hi]; rfl
    · rw [List.getElem?_map, List.getElem?_eq_getElem hj]; rfl
theorem insAll_one {bs : List Str} {ts us : List TP} (m : ("name" : Str) ∈ bs) (p : ts.Perm us) (nd : (ts.map Prod.fst).Nodup) (pos : ∀ t ∈ ts, 0 < t.2.parts / t.2.by_) : insAll bs ts = insAll bs us := by
  have ndu : (us.map Prod.fst).Nodup := ((p.map _).nodup_iff).mp nd
  have pw : ∀ vs : List TP, vs.Perm ts → (vs.map Prod.fst).Nodup → (insAll bs vs).Pairwise fun a b => ahO a.1 a.2 b.1 b.2 bs = some true := fun vs pv nv => by
    have mm : ∀ a ∈ insAll bs vs, 0 < a.2.parts / a.2.by_ := fun a ma => pos a (pv.mem_iff.mp ((insAll_perm vs).mem_iff.mp ma))
    exact chain_pw _ (fun a ma b mb c mc h1 h2 => ahO_tr (mm a ma) (mm b mb) (mm c mc) h1 h2) fun k a b ha hb => (insAll_adj vs nv k a b ha hb).at_name m
  refine pw_one ((insAll_perm ts).trans (p.trans (insAll_perm us).symm)) (fun a ma b mb ne h1 h2 => ?_) (pw ts (.refl _) nd) (pw us p.symm ndu)
  have nn : a.1 ≠ b.1 := fun e => ne (nd_eq nd ((insAll_perm ts).mem_iff.mp ma) ((insAll_perm ts).mem_iff.mp mb) e)
  rw [ahO_sym nn, h2] at h1
  cases h1
/-! no rate is above the most runs of a game -/
def hiG (z : Str) (gs : List LG) : Int := gs.foldl (fun h g => if z = g.a ∨ z = g.b then max h (max g.r g.s) else h) 0
theorem hiG_snoc {z : Str} {gs : List LG} {g : LG} : hiG z (gs ++ [g]) = if z = g.a ∨ z = g.b then max (hiG z gs) (max g.r g.s) else hiG z gs := by
  unfold hiG
  rw [List.foldl_append]; rfl
theorem mul_up {x h b h2 r n : Int} (e : x ≤ h * b) (hb : 0 ≤ b) (h0 : 0 ≤ h) (l1 : h ≤ h2) (l2 : r ≤ h2) (hn : 1 ≤ n) : x + r ≤ h2 * (b + n) := by
  have a1 : h * b ≤ h2 * b := Int.mul_le_mul_of_nonneg_right l1 hb
  have a2 : h2 * 1 ≤ h2 * n := Int.mul_le_mul_of_nonneg_left hn (by omega)
  rw [Int.mul_add]
  omega
theorem hiG_ok {p0 p1 p2 : Int} {ns : List Str} {z : Str} : ∀ gs : List LG, (∀ g ∈ gs, LGok ns g) → 0 ≤ hiG z gs ∧ (hasG p0 p1 p2 gs z).r0 ≤ hiG z gs * (hasG p0 p1 p2 gs z).b0 ∧ (hasG p0 p1 p2 gs z).r1 ≤ hiG z gs * (hasG p0 p1 p2 gs z).b1 := rev_ind (fun _ => ⟨Int.le_refl _, Int.le_refl _, Int.le_refl _⟩) fun gs g ih hg => by
  have hgs : ∀ x ∈ gs, LGok ns x := fun x m => hg x (List.mem_append_left _ m)
  obtain ⟨h0, h1, h2⟩ := ih hgs
  obtain ⟨-, -, ⟨b0, -⟩, ⟨b1, -⟩, -⟩ := hasG_ok (p0 := p0) (p1 := p1) (p2 := p2) (z := z) gs hgs
  have k := hg g (by simp)
  have kr := k.r
  have ks := k.s
  have kn := k.n
  have km := k.m
  rw [hasG_snoc, hiG_snoc]
  generalize hasG p0 p1 p2 gs z = x at *
  generalize hiG z gs = h at *
  by_cases c1 : z = g.b
  · have c2 : z ≠ g.a := fun e => k.ne (e.symm.trans c1)
    rw [if_pos c1, if_neg c2, if_pos (.inr c1)]
    exact ⟨by omega, mul_up h1 b0 h0 (by omega) (by omega) (by omega), mul_up h2 b1 h0 (by omega) (by omega) (by omega)⟩
  · rw [if_neg c1]
    by_cases c2 : z = g.a
    · rw [if_pos c2, if_pos (.inl c2)]
      exact ⟨by omega, mul_up h1 b0 h0 (by omega) (by omega) (by omega), mul_up h2 b1 h0 (by omega) (by omega) (by omega)⟩
    · rw [if_neg c2, if_neg (fun e => e.elim c2 c1)]
      exact ⟨h0, h1, h2⟩
theorem rate_in {x : SV} {h k : Int} (ok : SVok k x) (hk : k ≤ 100) (h0 : 0 ≤ h) (h1 : x.r0 ≤ h * x.b0) (h2 : x.r1 ≤ h * x.b1) : 0 < x.parts / x.by_ ∧ (0 - h) * (x.parts / x.by_) ≤ x.num / x.by_ ∧ x.num / x.by_ ≤ h * (x.parts / x.by_) := by
  obtain ⟨g1, -⟩ := by_pos ok hk
  obtain ⟨p1, -⟩ := parts_lt ok hk
  have d1 : x.by_ ∣ x.num := Int.gcd_dvd_left ..
  have d2 : x.by_ ∣ x.parts := Int.gcd_dvd_right ..
  have e1 := Int.ediv_mul_cancel d1
  have e2 := Int.ediv_mul_cancel d2
  have n1 : x.num ≤ h * x.parts := by
    unfold SV.num SV.parts
    have a1 : x.r0 * x.b1 ≤ h * x.b0 * x.b1 := Int.mul_le_mul_of_nonneg_right h1 (by have := ok.b1; omega)
    have a2 : 0 ≤ x.r1 * x.b0 := Int.mul_nonneg ok.r1.1 (by have := ok.b0; omega)
    rw [← Int.mul_assoc]
    omega
  have n2 : (0 - h) * x.parts ≤ x.num := by
    unfold SV.num SV.parts
    have a1 : x.r1 * x.b0 ≤ h * x.b1 * x.b0 := Int.mul_le_mul_of_nonneg_right h2 (by have := ok.b0; omega)
    have a2 : 0 ≤ x.r0 * x.b1 := Int.mul_nonneg ok.r0.1 (by have := ok.b1; omega)
    have a3 : h * x.b1 * x.b0 = h * (x.b0 * x.b1) := by rw [Int.mul_assoc, Int.mul_comm x.b1 x.b0]
    rw [Int.sub_mul, Int.zero_mul]
    omega
  generalize x.num / x.by_ = u at *
  generalize x.parts / x.by_ = v at *
  have hv : 0 < v := by
    refine Classical.byContradiction fun c => ?_
    have := Int.mul_le_mul_of_nonneg_right (show v ≤ 0 by omega) (show 0 ≤ x.by_ by omega)
    rw [e2, Int.zero_mul] at this
    omega
  refine ⟨hv, ?_, ?_⟩
  · refine Int.le_of_mul_le_mul_right (a := x.by_) ?_ (by omega)
    rw [e1, Int.mul_assoc, e2]
    exact n2
  · refine Int.le_of_mul_le_mul_right (a := x.by_) ?_ (by omega)
    rw [e1, Int.mul_assoc, e2]
    exact n1


theorem go_iRev {K : PySem.W.Frag} {ta : TA} {σ : St} {H : Hp} {R : It → Hp → Prop} (h : ta σ H fun vs H1 => ∃ a xs, vs = [V.ref a] ∧ SqL K H1 a xs ∧ R (Itv K a xs.length) H1) : iRev K ta σ H R := h

/-! ### _law_turned -/
abbrev s__law_turned : Stmt := top 16
abbrev N__law_turned : List Str := ["_law_games_here", "_law_one", "_law_r", "_law_n", "_law_other", "_law_s", "_law_m"]
theorem sc__law_turned : FnScope N__law_turned ["_law_games_here"] (defScope s__law_turned) := ⟨rfl, rfl, rfl, by decide +kernel, rfl, by decide +kernel, by decide +kernel⟩
def pr__law_turned (K : PySem.W.Frag) : V → Hp → VK → XK → Prop := fun a0 H Q E => ∃ (F : Hp) (R : Cells) (gl : Addr) (gs : GS), a0 = .ref gl ∧ F gl = some (.lst (lgL gs)) ∧ GF F gs ∧ gs.length ≤ 100 ∧ Sta F R H ∧ ∀ (l : Addr) (gs2 : GS) F' H', gv gs2 = (gv gs).reverse.map turnG → Same F F' → F' l = some (.lst (lgL gs2)) → GF F' gs2 → Sta F' R H' → Q (.ref l) H' 
abbrev sp__law_turned (K : PySem.W.Frag) : Sp := Sp1 (pr__law_turned K)
theorem ok__law_turned {P : Program} {w : World} {K : PySem.W.Frag} {mg : Str → Option Value} {base : Heap} {f : Addr} {fd : FuncData} (F : FunD K "_law_turned" "_law_turned" (defArgs s__law_turned) (defBody s__law_turned) (defScope s__law_turned) [] [] f fd) (T : Txt K mg)  : FnOk P w K mg base CX0 1 f fd ["_law_games_here"] (sp__law_turned K) := by
  refine F.ok sc__law_turned (fun vs H Q E h => len1 h) (fun cdv A outer s H vs Q E hr h => ?_)
  obtain ⟨a0, rfl, h⟩ := h
  have hu := hu_of hr
  refine ⟨_, PSs.nox ((pss_one (ps_ret (pe_lc (own := [("_law_one", 1), ("_law_r", 2), ("_law_n", 3), ("_law_other", 4), ("_law_s", 5), ("_law_m", 6)]) rfl sc__law_turned.nd (pi_reversed (by rfl) T.b_reversed (pa_cons (pv 0) pa_nil)) (blkOk_by (N := N__law_turned) (sc := defScope s__law_turned) (own := [("_law_one", 1), ("_law_r", 2), ("_law_n", 3), ("_law_other", 4), ("_law_s", 5), ("_law_m", 6)]) (by decide +kernel)) (fun _ _ _ _ _ => (pg_tupK (K := K) rfl (n := 6) rfl (pgs_cons (pg_name (i := 1) sc__law_turned.nd rfl (by first | exact Or.inl rfl | exact Or.inr rfl)) (pgs_cons (pg_name (i := 2) sc__law_turned.nd rfl (by first | exact Or.inl rfl | exact Or.inr rfl)) (pgs_cons (pg_name (i := 3) sc__law_turned.nd rfl (by first | exact Or.inl rfl | exact Or.inr rfl)) (pgs_cons (pg_name (i := 4) sc__law_turned.nd rfl (by first | exact Or.inl rfl | exact Or.inr rfl)) (pgs_cons (pg_name (i := 5) sc__law_turned.nd rfl (by first | exact Or.inl rfl | exact Or.inr rfl)) (pgs_cons (pg_name (i := 6) sc__law_turned.nd rfl (by first | exact Or.inl rfl | exact Or.inr rfl)) pgs_nil)))))))) (fun _ _ _ _ _ => pts_nil) (fun _ _ _ _ _ => (pe_tup (pa_cons (pv 4) (pa_cons (pv 5) (pa_cons (pv 6) (pa_cons (pv 1) (pa_cons (pv 2) (pa_cons (pv 3) pa_nil)))))))))))), ?_⟩
  refine go_start (σ := [some a0, none, none, none, none, none, none]) rfl ?_
  try dsimp only [cxOf, Cx.nox, Cx.wish, Cx.tr, Cx.suite]
  obtain ⟨F, R, gl, gs, rfl, hg, gf, lg, st, hq⟩ := h
  walk_at "*"
  refine go_iRev ?_
  walk_at "*"
  refine ⟨gl, lgL gs, rfl, .of (st.of hg), ?_⟩
  have ll : (lgL gs).length = gs.length := List.length_map ..
  refine LcW.sta (walk_rev (K := K) (a := gl) (xs := lgL gs)) (fun i ys F' L' => ∃ gs2 : GS, ys = lgL gs2 ∧ gv gs2 = ((gv gs).reverse.take i).map turnG ∧ GF F' gs2 ∧ Same F F' ∧ L' = R) (by omega) st ⟨[], rfl, by rw [List.take_zero]; rfl, (fun _ m => nomatch m), .refl _, rfl⟩ (fun i ys F' L H' _ st' ⟨_, _, _, _, s', _⟩ => .of (st'.of (s' _ _ hg))) ?_ ?_
  · rintro A i v ys F2 L' H2 H3 hi hl st2 ⟨gs2, rfl, eg, gf2, s2, rfl⟩ ⟨rfl, ey⟩ yes no hy hno
    rw [List.getElem?_map] at ey
    obtain ⟨x, ex, rfl⟩ := Option.map_eq_some_iff.mp ey
    have er : (gv gs).reverse[i]? = some x.2 := by
      rw [List.getElem?_reverse (by rw [List.length_map]; omega), List.getElem?_map, List.length_map, ← ll, ex]; rfl
    have et : ((gv gs).reverse.take (i + 1)).map turnG = ((gv gs).reverse.take i).map turnG ++ [turnG x.2] := by rw [List.take_add_one, er, List.map_append]; rfl
    have fx := s2 _ _ (gf x (List.mem_of_getElem? ex))
    obtain ⟨q, g⟩ := x
    clear st
    refine go_gtup (.of (st2.of fx)) rfl (go_gcons (go_name rfl (go_gcons (go_name rfl (go_gcons (go_name rfl (go_gcons (go_name rfl (go_gcons (go_name rfl (go_gcons (go_name rfl (go_gnil ⟨rfl, ?_⟩)))))))))))))
    walk_at "*"
    rename_i t F3 H4 s3 e3 st3
    refine hy _ F3 _ _ st3 ⟨gs2 ++ [(t, turnG g)], by show _ = List.map _ (gs2 ++ _); rw [List.map_append]; rfl, by rw [et, ← eg]; simp [gv], (gf2.same s3).snoc e3, s2.trans s3, rfl⟩
  rintro A ys F2 L H2 st2 - ⟨gs2, rfl, eg, gf2, s2, rfl⟩
  rw [List.take_of_length_le (by rw [List.length_reverse, List.length_map, ll]; exact Nat.le_refl _)] at eg
  obtain ⟨F3, s3, e3, st3⟩ := st2.freeze .rfl
  exact hq A gs2 F3 _ eg (s2.trans s3) e3 (gf2.same s3) st3
/-! ### _law_due_points -/
abbrev s__law_due_points : Stmt := top 17
abbrev N__law_due_points : List Str := ["_law_points", "_law_games_here", "_law_total", "_law_one", "_law_r", "_law_n", "_law_other", "_law_s", "_law_m"]
theorem sc__law_due_points : FnScope N__law_due_points ["_law_points", "_law_games_here"] (defScope s__law_due_points) := ⟨rfl, rfl, rfl, by decide +kernel, rfl, by decide +kernel, by decide +kernel⟩
def pr__law_due_points (K : PySem.W.Frag) : V → V → Hp → VK → XK → Prop := fun a0 a1 H Q E => ∃ (F : Hp) (R : Cells) (pt gl : Addr) (p0 p1 p2 : Int) (gs : GS), a0 = .ref pt ∧ a1 = .ref gl ∧ F pt = some (.tup [.int p0, .int p1, .int p2]) ∧ F gl = some (.lst (lgL gs)) ∧ GF F gs ∧ gs.length ≤ 100 ∧ Sta F R H ∧ Q (.int ((gv gs).map fun g => if g.r = g.s then 2 * p1 else p0 + p2).sum) H
abbrev sp__law_due_points (K : PySem.W.Frag) : Sp := Sp2 (pr__law_due_points K)
theorem ok__law_due_points {P : Program} {w : World} {K : PySem.W.Frag} {mg : Str → Option Value} {base : Heap} {f : Addr} {fd : FuncData} (F : FunD K "_law_due_points" "_law_due_points" (defArgs s__law_due_points) (defBody s__law_due_points) (defScope s__law_due_points) [] [] f fd) (T : Txt K mg)  : FnOk P w K mg base CX0 1 f fd ["_law_points", "_law_games_here"] (sp__law_due_points K) := by
  refine F.ok sc__law_due_points (fun vs H Q E h => len2 h) (fun cdv A outer s H vs Q E hr h => ?_)
  obtain ⟨a0, a1, rfl, h⟩ := h
  have hu := hu_of hr
  refine ⟨_, PSs.nox ((pss_cons (ps_set (i := 2) sc__law_due_points.nd rfl (by first | exact Or.inl rfl | exact Or.inr rfl) pe_int)
      (pss_cons (ps_for PassesOwn.never rfl (pi_X (pv 1)) (pg_tup (n := 6) rfl (pgs_cons (pg_name (i := 3) sc__law_due_points.nd rfl (by first | exact Or.inl rfl | exact Or.inr rfl)) (pgs_cons (pg_name (i := 4) sc__law_due_points.nd rfl (by first | exact Or.inl rfl | exact Or.inr rfl)) (pgs_cons (pg_name (i := 5) sc__law_due_points.nd rfl (by first | exact Or.inl rfl | exact Or.inr rfl)) (pgs_cons (pg_name (i := 6) sc__law_due_points.nd rfl (by first | exact Or.inl rfl | exact Or.inr rfl)) (pgs_cons (pg_name (i := 7) sc__law_due_points.nd rfl (by first | exact Or.inl rfl | exact Or.inr rfl)) (pgs_cons (pg_name (i := 8) sc__law_due_points.nd rfl (by first | exact Or.inl rfl | exact Or.inr rfl)) pgs_nil))))))) (pss_one (ps_set (i := 2) sc__law_due_points.nd rfl (by first | exact Or.inl rfl | exact Or.inr rfl) (pe_op op_addX (pv 2) (pe_ifExp (pt_cmpR (op_eqX hr.units) (pv 4) (pv 7) (nomark _)) (pe_op op_mulX pe_int (pe_ix (ix_X hu) (pv 0) pe_int (fun _ _ => rfl))) (pe_op op_addX (pe_ix (ix_X hu) (pv 0) pe_int (fun _ _ => rfl)) (pe_ix (ix_X hu) (pv 0) pe_int (fun _ _ => rfl))))))))
      (pss_one (ps_ret (pv 2)))))), ?_⟩
  refine go_start (σ := [some a0, some a1, none, none, none, none, none, none, none]) rfl ?_
  try dsimp only [cxOf, Cx.nox, Cx.wish, Cx.tr, Cx.suite]
  obtain ⟨F, R, pt, gl, p0, p1, p2, gs, rfl, rfl, hp, hg, gf, lg, st, hq⟩ := h
  walk_at "*"
  refine go_iL (.of (st.of hg)) ?_
  refine accLO gs (fun x => V.ref x.1) (fun pre σ H' => H' = H ∧ ∃ v3 v4 v5 v6 v7 v8 : Option V, σ = [some (.ref pt), some (.ref gl), some (.int ((gv pre).map fun g => if g.r = g.s then 2 * p1 else p0 + p2).sum), v3, v4, v5, v6, v7, v8])
    ⟨rfl, _, _, _, _, _, _, rfl⟩ (fun pre σ H' ⟨e, _⟩ => by subst e; exact .of (st.of hg)) ?_ ?_
  · rintro pre x σ H2 mx ⟨post, ep⟩ ⟨rfl, v3, v4, v5, v6, v7, v8, rfl⟩ D' hnx hct hrt
    have fx := gf x mx
    obtain ⟨q, g⟩ := x
    walk_at "*"
    have es : ((gv (pre ++ [(q, g)])).map fun g => if g.r = g.s then 2 * p1 else p0 + p2).sum = ((gv pre).map fun g => if g.r = g.s then 2 * p1 else p0 + p2).sum + if g.r = g.s then 2 * p1 else p0 + p2 := by
      rw [show gv (pre ++ [(q, g)]) = gv pre ++ [g] by simp [gv], List.map_append, List.sum_append]
      show _ + (_ + 0) = _
      rw [Int.add_zero]
    rw [decI]
    by_cases c : g.r = g.s
    · rw [if_pos c] at es
      rw [if_pos (decide_eq_true c)]
      walk_at "*"
      exact hnx _ _ ⟨rfl, _, _, _, _, _, _, by rw [es]⟩
    · rw [if_neg c] at es
      rw [if_neg (show ¬ decide (g.r = g.s) = true by simp [c])]
      walk_at "*"
      exact hnx _ _ ⟨rfl, _, _, _, _, _, _, by rw [es]⟩
  rintro σ H2 ⟨rfl, v3, v4, v5, v6, v7, v8, rfl⟩
  walk_at "*"
  exact hq
/-! ### _law_within -/
abbrev s__law_within : Stmt := top 18
abbrev N__law_within : List Str := ["_law_games_here", "_law_name", "_law_high", "_law_low", "_law_number", "_law_parts", "_law_one", "_law_r", "_law_n", "_law_other", "_law_s", "_law_m"]
theorem sc__law_within : FnScope N__law_within ["_law_games_here", "_law_name"] (defScope s__law_within) := ⟨rfl, rfl, rfl, by decide +kernel, rfl, by decide +kernel, by decide +kernel⟩
def pr__law_within (K : PySem.W.Frag) : V → V → Hp → VK → XK → Prop := fun a0 a1 H Q E => ∃ (F : Hp) (R : Cells) (gl : Addr) (gs : GS) (ns : List Str) (z : Str), a0 = .ref gl ∧ a1 = .str z ∧ F gl = some (.lst (lgL gs)) ∧ GF F gs ∧ gs.length ≤ 100 ∧ (∀ g ∈ gv gs, LGok ns g) ∧ inG (gv gs) z ∧ Sta F R H ∧ ∀ F' H', Same F F' → Sta F' R H' → Q (.bl true) H' 
abbrev sp__law_within (K : PySem.W.Frag) : Sp := Sp2 (pr__law_within K)
theorem ok__law_within {P : Program} {w : World} {K : PySem.W.Frag} {mg : Str → Option Value} {base : Heap} {f : Addr} {fd : FuncData} (F : FunD K "_law_within" "_law_within" (defArgs s__law_within) (defBody s__law_within) (defScope s__law_within) [] [] f fd) (T : Txt K mg) (d_rate_of : Dn P w K mg base CX0 4 "rate_of" ["games", "team"] [] (sp_rate_of K)) : FnOk P w K mg base CX0 5 f fd ["_law_games_here", "_law_name"] (sp__law_within K) := by
  refine F.ok sc__law_within (fun vs H Q E h => len2 h) (fun cdv A outer s H vs Q E hr h => ?_)
  obtain ⟨a0, a1, rfl, h⟩ := h
  have hu := hu_of hr
  refine ⟨_, PSs.nox ((pss_cons (ps_asg (pe_d d_rate_of (hr.mono (by decide)) rfl pass0 (pa_cons (pv 0) (pa_cons (pv 1) pa_nil))) (pg_tup (n := 2) rfl (pgs_cons (pg_name (i := 4) sc__law_within.nd rfl (by first | exact Or.inl rfl | exact Or.inr rfl)) (pgs_cons (pg_name (i := 5) sc__law_within.nd rfl (by first | exact Or.inl rfl | exact Or.inr rfl)) pgs_nil))))
      (pss_cons (ps_set (i := 2) sc__law_within.nd rfl (by first | exact Or.inl rfl | exact Or.inr rfl) pe_int)
      (pss_cons (ps_set (i := 3) sc__law_within.nd rfl (by first | exact Or.inl rfl | exact Or.inr rfl) pe_int)
      (pss_cons (ps_for PassesOwn.never rfl (pi_X (pv 0)) (pg_tup (n := 6) rfl (pgs_cons (pg_name (i := 6) sc__law_within.nd rfl (by first | exact Or.inl rfl | exact Or.inr rfl)) (pgs_cons (pg_name (i := 7) sc__law_within.nd rfl (by first | exact Or.inl rfl | exact Or.inr rfl)) (pgs_cons (pg_name (i := 8) sc__law_within.nd rfl (by first | exact Or.inl rfl | exact Or.inr rfl)) (pgs_cons (pg_name (i := 9) sc__law_within.nd rfl (by first | exact Or.inl rfl | exact Or.inr rfl)) (pgs_cons (pg_name (i := 10) sc__law_within.nd rfl (by first | exact Or.inl rfl | exact Or.inr rfl)) (pgs_cons (pg_name (i := 11) sc__law_within.nd rfl (by first | exact Or.inl rfl | exact Or.inr rfl)) pgs_nil))))))) (pss_one (ps_if (pt_cmpR (op_inX hu) (pv 1) (pe_tup (pa_cons (pv 6) (pa_cons (pv 9) pa_nil))) (by rfl)) (pss_cons (ps_set (i := 2) sc__law_within.nd rfl (by first | exact Or.inl rfl | exact Or.inr rfl) (pe_callB (call_mx3 rfl) (by rfl) T.b_max L2.A.boot_max (pa_cons (pv 2) (pa_cons (pv 7) (pa_cons (pv 10) pa_nil)))))
      (pss_one (ps_set (i := 3) sc__law_within.nd rfl (by first | exact Or.inl rfl | exact Or.inr rfl) (pe_callB (call_mn3 rfl) (by rfl) T.b_min L2.A.boot_min (pa_cons (pv 3) (pa_cons (pe_op op_sub pe_int (pv 7)) (pa_cons (pe_op op_sub pe_int (pv 10)) pa_nil))))))) pss_nil)))
      (pss_one (ps_ret (pe_and (pe_cmpR op_gt (pv 5) pe_int (nomark _)) (pe_one (pe_chain op_le op_le (pe_op op_mulX (pv 3) (pv 5)) (pv 4) (pe_op op_mulX (pv 2) (pv 5)))))))))))), ?_⟩
  refine go_start (σ := [some a0, some a1, none, none, none, none, none, none, none, none, none, none]) rfl ?_
  try dsimp only [cxOf, Cx.nox, Cx.wish, Cx.tr, Cx.suite]
  obtain ⟨F, R, gl, gs, ns, z, rfl, rfl, hg, gf, lg, og, hz, st, hq⟩ := h
  have ok := hasG_SV (p0 := 0) (p1 := 0) (p2 := 0) og hz
  obtain ⟨i0, i1, i2⟩ := hiG_ok (p0 := 0) (p1 := 0) (p2 := 0) (z := z) (gv gs) og
  obtain ⟨r1, r2, r3⟩ := rate_in ok (by rw [List.length_map]; omega) i0 i1 i2
  obtain ⟨b1, b2⟩ := pb_ok ok (by rw [List.length_map]; omega)
  walk_at "*"
  refine go_sp2 ⟨F, R, gl, gs, ns, z, rfl, rfl, hg, gf, lg, og, hz, st, fun t F1 H1 s1 e1 st1 => ?_⟩
  clear st
  walk_at "*"
  generalize (hasG 0 0 0 (gv gs) z).num / (hasG 0 0 0 (gv gs) z).by_ = u at *
  generalize (hasG 0 0 0 (gv gs) z).parts / (hasG 0 0 0 (gv gs) z).by_ = v at *
  refine go_iL (.of (st1.of (s1 _ _ hg))) ?_
  refine accLO gs (fun x => V.ref x.1) (fun pre σ H' => ∃ (F' : Hp) (v6 v7 v8 v9 v10 v11 : Option V), Same F1 F' ∧ Sta F' R H' ∧ σ = [some (.ref gl), some (.str z), some (.int (hiG z (gv pre))), some (.int (0 - hiG z (gv pre))), some (.int u), some (.int v), v6, v7, v8, v9, v10, v11])
    ⟨F1, _, _, _, _, _, _, .refl _, st1, rfl⟩ (fun pre σ H' ⟨_, _, _, _, _, _, _, s', st', _⟩ => .of (st'.of ((s1.trans s') _ _ hg))) ?_ ?_
  · rintro pre x σ H2 mx ⟨post, ep⟩ ⟨F2, v6, v7, v8, v9, v10, v11, s2, st2, rfl⟩ D' hnx hct hrt
    have fx := (s1.trans s2) _ _ (gf x mx)
    obtain ⟨q, g⟩ := x
    clear st1
    walk_at "*"
    rename_i t3 F3 H3 s3 e3 st3
    refine go_inT (.of (st3.of e3)) rfl rfl ?_
    rw [inv2]
    have es : hiG z (gv (pre ++ [(q, g)])) = if z = g.a ∨ z = g.b then max (hiG z (gv pre)) (max g.r g.s) else hiG z (gv pre) := by
      rw [show gv (pre ++ [(q, g)]) = gv pre ++ [g] by simp [gv], hiG_snoc]
    clear st2
    by_cases c : z = g.a ∨ z = g.b
    · rw [if_pos c] at es
      rw [show (decide (z = (q, g).snd.a) || decide (z = (q, g).snd.b)) = true by simpa using c]
      walk_at "*"
      exact hnx _ _ ⟨F3, _, _, _, _, _, _, s2.trans s3, st3, by rw [es, show min (0 - hiG z (gv pre)) (min (0 - g.r) (0 - g.s)) = 0 - max (hiG z (gv pre)) (max g.r g.s) by omega]⟩
    · rw [if_neg c] at es
      rw [show (decide (z = (q, g).snd.a) || decide (z = (q, g).snd.b)) = false by simpa using c]
      walk_at "*"
      exact hnx _ _ ⟨F3, _, _, _, _, _, _, s2.trans s3, st3, by rw [es]⟩
  rintro σ H2 ⟨F2, v6, v7, v8, v9, v10, v11, s2, st2, rfl⟩
  clear st1
  walk_at "*"
  refine ite_T (decide_eq_true r1) ?_
  walk_at "*"
  refine ite_T (decide_eq_true r2) ?_
  walk_at "*"
  exact ret_V (by rw [decide_eq_true r3]) (hq _ _ (s1.trans s2) st2)
theorem tabG_nd {p0 p1 p2 : Int} {gs : List LG} : ((tabG p0 p1 p2 gs).map Prod.fst).Nodup := by
  rw [tabG_eq, List.map_map]
  have : (Prod.fst ∘ fun z => (z, hasG p0 p1 p2 gs z)) = id := rfl
  rw [this, List.map_id]
  exact ordK_nd

def dRow (t : TP) : PyData := .tuple [.str t.1, .int t.2.pts, .int t.2.w, .int t.2.t, .int t.2.l, .tuple ((rateL t.2).map dV)]
def dRs (ts : List TP) : PyData := .list (ts.map dRow)
theorem dRs_ok {ts : List TP} (h : ∀ t ∈ ts, okV (.str t.1) = true) : (dRs ts).canLay0 = true ∧ (dRs ts).depth ≤ 64 := by
  refine ⟨canAll_map fun t m => ?_, ?_⟩
  · have h1 : PyData.strOk t.1 = true := h t m
    unfold dRow
    simp [PyData.canLay0, PyData.canLayAll0, dV, h1]
  · have : PyData.depthAll (ts.map dRow) ≤ 2 := depthAll_map fun t m => by
      unfold dRow
      simp [PyData.depth, PyData.depthAll, dV]
    unfold dRs
    simp only [PyData.depth]
    omega
theorem rs_dp {K : PySem.W.Frag} {H : Hp} {l : Addr} {rs : RS} (hl : SqL K H l (rs.map fun r => V.ref r.1)) (h : RsF H rs) : Dp K H (.ref l) (dRs (rs.map fun r => r.2.2)) := by
  refine .lst hl ?_
  rw [List.map_map]
  exact DpAll.map (f := fun r : Addr × Addr × TP => V.ref r.1) (g := dRow ∘ fun r => r.2.2) fun r m => .tup (.of (h r m).1) (.cons (.str _) (.cons (.int _) (.cons (.int _) (.cons (.int _) (.cons (.int _) (.cons (.tup (.of (h r m).2) (.cons (.int _) (.cons (.int _) .nil))) .nil))))))


def rsP (rs : RS) : List (V × PyData) := rs.map fun r => (V.ref r.1, dRow r.2.2)
theorem rows_alike (a b : TP) : PySem.W.alike (dRow a) (dRow b) = true := by
  simp [dRow, dV, PySem.W.alike, PySem.W.alikeAll]
theorem dRow_dep (a : TP) : (dRow a).depth ≤ 60 := by
  unfold dRow
  simp [PyData.depth, PyData.depthAll, dV]
theorem dRow_lt {a b : TP} (ne : a.1 ≠ b.1) : PySem.W.dataLt (dRow a) (dRow b) = decide (a.1.cps.toList < b.1.cps.toList) := by
  unfold dRow
  rw [PySem.W.dataLt_tuple, PySem.W.dataLt_cons (by simp [PySem.W.alike]), if_neg (by simp [PyData.eqv, ne]), PySem.W.dataLt_str]
theorem sort_rows {L M : List TP} (p : L.Perm M) (nd : (L.map Prod.fst).Nodup) : L.mergeSort (PySem.W.dataLe false dRow) = M.mergeSort (PySem.W.dataLe false dRow) := by
  have tot := PySem.W.sortLe_total (PyProof.Rows.listOrd PyProof.Rows.itemOrd) false fun t : TP => PySem.W.keyToks (dRow t)
  refine pw_one (R := fun a b => PySem.W.dataLe false dRow a b = true) ((List.mergeSort_perm _ _).trans (p.trans (List.mergeSort_perm _ _).symm)) (fun a ma b mb ne h1 h2 => ?_) (PySem.W.sort_pairwise tot L) (PySem.W.sort_pairwise tot M)
  have nn : a.1 ≠ b.1 := fun e => ne (nd_eq nd ((List.mergeSort_perm _ _).mem_iff.mp ma) ((List.mergeSort_perm _ _).mem_iff.mp mb) e)
  have h1 : (!PySem.W.dataLt (dRow b) (dRow a)) = true := h1
  have h2 : (!PySem.W.dataLt (dRow a) (dRow b)) = true := h2
  rw [dRow_lt (Ne.symm nn)] at h1
  rw [dRow_lt nn, lt_swap nn] at h2
  cases c : decide (b.1.cps.toList < a.1.cps.toList) <;> rw [c] at h1 h2 <;> simp at h1 h2
theorem rsP_sort (rs : RS) : ((rsP rs).mergeSort (PySem.W.dataLe false Prod.snd)).map Prod.snd = ((rs.map fun r => r.2.2).mergeSort (PySem.W.dataLe false dRow)).map dRow := by
  unfold rsP
  rw [← PySem.W.sort_maps (r := PySem.W.dataLe false fun r : Addr × Addr × TP => dRow r.2.2) (fun r : Addr × Addr × TP => (V.ref r.1, dRow r.2.2)) (fun _ _ _ _ => rfl),
    ← PySem.W.sort_maps (r := PySem.W.dataLe false fun r : Addr × Addr × TP => dRow r.2.2) (fun r : Addr × Addr × TP => r.2.2) (fun _ _ _ _ => rfl), List.map_map, List.map_map]
  rfl
theorem dp_all {K : PySem.W.Frag} {H : Hp} : ∀ {ps : List (V × PyData)}, (∀ p ∈ ps, Dp K H p.1 p.2) → DpAll K H (ps.map Prod.fst) (ps.map Prod.snd)
  | [], _ => .nil
  | p :: r, h => .cons (h p (.head _)) (dp_all fun x m => h x (.tail _ m))
theorem row_dp {K : PySem.W.Frag} {H : Hp} {rs : RS} (h : RsF H rs) : ∀ p ∈ rsP rs, Dp K H p.1 p.2 := fun p m => by
  obtain ⟨r, mr, rfl⟩ := List.mem_map.mp m
  exact .tup (.of (h r mr).1) (.cons (.str _) (.cons (.int _) (.cons (.int _) (.cons (.int _) (.cons (.int _) (.cons (.tup (.of (h r mr).2) (.cons (.int _) (.cons (.int _) .nil))) .nil))))))
theorem sort_dp {K : PySem.W.Frag} {F H : Hp} {R : Cells} {p : Addr} {rs : RS} (st : Sta F R H) (e : F p = some (.lst (((rsP rs).mergeSort (PySem.W.dataLe false Prod.snd)).map Prod.fst))) (h : RsF F rs) : Dp K H (.ref p) (.list (((rs.map fun r => r.2.2).mergeSort (PySem.W.dataLe false dRow)).map dRow)) := by
  rw [← rsP_sort]
  exact .lst (.of (st.of e)) (dp_all fun q m => row_dp (fun r m => ⟨st.of (h r m).1, st.of (h r m).2⟩) q ((List.mergeSort_perm _ _).mem_iff.mp m))
/-- sorted(rows) -/
theorem go_sortRs {K : PySem.W.Frag} {F H : Hp} {R : Cells} {l : Addr} {rs : RS} {Q : VK} (st : Sta F R H) (hl : F l = some (.lst (rs.map fun r => V.ref r.1))) (h : RsF F rs)
    (hq : ∀ p F' H', Same F F' → Sta F' R H' → Dp K H' (.ref p) (.list (((rs.map fun r => r.2.2).mergeSort (PySem.W.dataLe false dRow)).map dRow)) → F' p = some (.lst (((rsP rs).mergeSort (PySem.W.dataLe false Prod.snd)).map Prod.fst)) → Q (.ref p) H') : rSortedDat K [.ref l] H Q := by
  have hH : RsF H rs := fun r m => ⟨st.of (h r m).1, st.of (h r m).2⟩
  refine ⟨l, rsP rs, rfl, .of (by unfold rsP; rw [List.map_map]; exact st.of hl), row_dp hH, ?_, ?_, ?_, fun p hp => ?_⟩
  · unfold rsP
    rw [List.map_map]
    exact PySem.W.AllAlike.of (enc := Prod.snd ∘ fun r : Addr × Addr × TP => (V.ref r.1, dRow r.2.2)) fun a b => rows_alike _ _
  · unfold rsP
    rw [List.map_map]
    exact PySem.W.Sortable.tuples (enc := Prod.snd ∘ fun r : Addr × Addr × TP => (V.ref r.1, dRow r.2.2)) fun b => ⟨_, _, rfl⟩
  · intro p m
    obtain ⟨r, -, rfl⟩ := List.mem_map.mp m
    exact dRow_dep _
  · obtain ⟨F', s', e', st'⟩ := st.newF hp (same_new hp) (o := .lst (((rsP rs).mergeSort (PySem.W.dataLe false Prod.snd)).map Prod.fst)) upd_same
    refine hq p F' _ s' st' ?_ e'
    have h' : RsF (upd H p (.lst (((rsP rs).mergeSort (PySem.W.dataLe false Prod.snd)).map Prod.fst))) rs := fun r m => ⟨st'.of (s' _ _ (h r m).1), st'.of (s' _ _ (h r m).2)⟩
    rw [← rsP_sort]
    exact .lst (.of upd_same) (dp_all fun q m => row_dp h' q ((List.mergeSort_perm _ _).mem_iff.mp m))

/-! ### law -/
abbrev s_law : Stmt := top 19
abbrev N_law : List Str := ["_law_script", "_law_found", "_law_other", "_law_points", "_law_breakers_here", "_law_games_here", "_law_row", "_law_game"]
theorem sc_law : FnScope N_law ["_law_script"] (defScope s_law) := ⟨rfl, rfl, rfl, by decide +kernel, rfl, by decide +kernel, by decide +kernel⟩
def pr_law (K : PySem.W.Frag) : V → Hp → VK → XK → Prop := fun a0 H Q E => ∃ (a : Addr) (ns : List Int), a0 = .ref a ∧ SqL K H a (ns.map V.int) ∧ ns.length ≤ 63 ∧ ∀ H', Q (.bl true) H'
abbrev sp_law (K : PySem.W.Frag) : Sp := Sp1 (pr_law K)
theorem ok_law {P : Program} {w : World} {K : PySem.W.Frag} {mg : Str → Option Value} {base : Heap} {f : Addr} {fd : FuncData} (F : FunD K "law" "law" (defArgs s_law) (defBody s_law) (defScope s_law) [] [] f fd) (T : Txt K mg) (d__law_league : Dn P w K mg base CX0 3 "_law_league" ["_law_script", "_law_most"] [] (sp__law_league K)) (d_standing : Dn P w K mg base CX0 5 "standing" ["points", "breakers", "games"] [] (sp_standing K)) (d__law_due_points : Dn P w K mg base CX0 1 "_law_due_points" ["_law_points", "_law_games_here"] [] (sp__law_due_points K)) (d__law_turned : Dn P w K mg base CX0 1 "_law_turned" ["_law_games_here"] [] (sp__law_turned K)) (d__law_within : Dn P w K mg base CX0 5 "_law_within" ["_law_games_here", "_law_name"] [] (sp__law_within K)) (d_rate_of : Dn P w K mg base CX0 4 "rate_of" ["games", "team"] [] (sp_rate_of K)) : FnOk P w K mg base CX0 6 f fd ["_law_script"] (sp_law K) := by
  refine F.ok sc_law (fun vs H Q E h => len1 h) (fun cdv A outer s H vs Q E hr h => ?_)
  obtain ⟨a0, rfl, h⟩ := h
  have hu := hu_of hr
  refine ⟨_, PSs.nox ((pss_cons (ps_asg (pe_d d__law_league (hr.mono (by decide)) rfl pass0 (pa_cons (pv 0) (pa_cons pe_int pa_nil))) (pg_tupA (n := 3) rfl (pgs_cons (pg_name (i := 3) sc_law.nd rfl (by first | exact Or.inl rfl | exact Or.inr rfl)) (pgs_cons (pg_name (i := 4) sc_law.nd rfl (by first | exact Or.inl rfl | exact Or.inr rfl)) (pgs_cons (pg_name (i := 5) sc_law.nd rfl (by first | exact Or.inl rfl | exact Or.inr rfl)) pgs_nil)))))
      (pss_cons (ps_set (i := 1) sc_law.nd rfl (by first | exact Or.inl rfl | exact Or.inr rfl) (pe_d d_standing (hr.mono (by decide)) rfl pass0 (pa_cons (pv 3) (pa_cons (pv 4) (pa_cons (pv 5) pa_nil)))))
      (pss_cons (ps_if (pt_cmpR (op_neX hr.units) (pe_callB (cr_sumX rfl) (by rfl) T.b_sum L2.A.boot_sum (pa_cons (pe_lc (own := [("_law_row", 6)]) rfl sc_law.nd (pi_X (pv 1)) (blkOk_by (N := N_law) (sc := defScope s_law) (own := [("_law_row", 6)]) (by decide +kernel)) (fun _ _ _ _ _ => (pg_name (i := 6) sc_law.nd rfl (by first | exact Or.inl rfl | exact Or.inr rfl))) (fun _ _ _ _ _ => pts_nil) (fun _ _ _ _ _ => (pe_ix (ix_K (K := K) rfl hu) (pv 6) pe_int (fun _ _ => rfl)))) pa_nil)) (pe_callB (cr_sumX rfl) (by rfl) T.b_sum L2.A.boot_sum (pa_cons (pe_lc (own := [("_law_row", 6)]) rfl sc_law.nd (pi_X (pv 1)) (blkOk_by (N := N_law) (sc := defScope s_law) (own := [("_law_row", 6)]) (by decide +kernel)) (fun _ _ _ _ _ => (pg_name (i := 6) sc_law.nd rfl (by first | exact Or.inl rfl | exact Or.inr rfl))) (fun _ _ _ _ _ => pts_nil) (fun _ _ _ _ _ => (pe_ix (ix_K (K := K) rfl hu) (pv 6) pe_int (fun _ _ => rfl)))) pa_nil)) (nomark _)) (pss_one (ps_ret pe_bl)) pss_nil)
      (pss_cons (ps_if (pt_cmpR (op_neX hr.units) (pe_callB (cr_sumX rfl) (by rfl) T.b_sum L2.A.boot_sum (pa_cons (pe_lc (own := [("_law_row", 6)]) rfl sc_law.nd (pi_X (pv 1)) (blkOk_by (N := N_law) (sc := defScope s_law) (own := [("_law_row", 6)]) (by decide +kernel)) (fun _ _ _ _ _ => (pg_name (i := 6) sc_law.nd rfl (by first | exact Or.inl rfl | exact Or.inr rfl))) (fun _ _ _ _ _ => pts_nil) (fun _ _ _ _ _ => (pe_ix (ix_K (K := K) rfl hu) (pv 6) pe_int (fun _ _ => rfl)))) pa_nil)) (pe_op op_mulX pe_int (pe_callB call_lenX (by rfl) T.b_len L2.A.boot_len (pa_cons (pe_lc (own := [("_law_game", 7)]) rfl sc_law.nd (pi_X (pv 5)) (blkOk_by (N := N_law) (sc := defScope s_law) (own := [("_law_game", 7)]) (by decide +kernel)) (fun _ _ _ _ _ => (pg_name (i := 7) sc_law.nd rfl (by first | exact Or.inl rfl | exact Or.inr rfl))) (fun _ _ _ _ _ => pts_one (pt_cmpR (op_eqK (K := K) rfl hr.units) (pe_ix (ix_K (K := K) rfl hu) (pv 7) pe_int (fun _ _ => rfl)) (pe_ix (ix_K (K := K) rfl hu) (pv 7) pe_int (fun _ _ => rfl)) (nomark _))) (fun _ _ _ _ _ => (pv 7))) pa_nil))) (nomark _)) (pss_one (ps_ret pe_bl)) pss_nil)
      (pss_cons (ps_if (pt_cmpR (op_neX hr.units) (pe_callB (cr_sumX rfl) (by rfl) T.b_sum L2.A.boot_sum (pa_cons (pe_lc (own := [("_law_row", 6)]) rfl sc_law.nd (pi_X (pv 1)) (blkOk_by (N := N_law) (sc := defScope s_law) (own := [("_law_row", 6)]) (by decide +kernel)) (fun _ _ _ _ _ => (pg_name (i := 6) sc_law.nd rfl (by first | exact Or.inl rfl | exact Or.inr rfl))) (fun _ _ _ _ _ => pts_nil) (fun _ _ _ _ _ => (pe_ix (ix_K (K := K) rfl hu) (pv 6) pe_int (fun _ _ => rfl)))) pa_nil)) (pe_d d__law_due_points (hr.mono (by decide)) rfl pass0 (pa_cons (pv 3) (pa_cons (pv 5) pa_nil))) (nomark _)) (pss_one (ps_ret pe_bl)) pss_nil)
      (pss_cons (ps_set (i := 2) sc_law.nd rfl (by first | exact Or.inl rfl | exact Or.inr rfl) (pe_d d_standing (hr.mono (by decide)) rfl pass0 (pa_cons (pv 3) (pa_cons (pv 4) (pa_cons (pe_d d__law_turned (hr.mono (by decide)) rfl pass0 (pa_cons (pv 5) pa_nil)) pa_nil)))))
      (pss_cut (ps_if (PW.pt (pw_or (pt_cmpR (op_neX hr.units) (pe_callB (cr_sortedDat hr.units) (by rfl) T.b_sorted L2.A.boot_sorted (pa_cons (pv 1) pa_nil)) (pe_callB (cr_sortedDat hr.units) (by rfl) T.b_sorted L2.A.boot_sorted (pa_cons (pv 2) pa_nil)) (nomark _)) (pw_or1 (PW.pt (pw_and (pt_cmpR (op_inX hu) pe_str (pv 4) (by rfl)) (pw_and1 (pt_cmpR (op_neX hr.units) (pv 1) (pv 2) (nomark _)))))))) (pss_one (ps_ret pe_bl)) pss_nil)
      (pss_one (ps_ret (pe_callB (cr_all rfl) (by rfl) T.b_all L2.A.boot_all (pa_cons (pe_lc (own := [("_law_row", 6)]) rfl sc_law.nd (pi_X (pv 1)) (blkOk_by (N := N_law) (sc := defScope s_law) (own := [("_law_row", 6)]) (by decide +kernel)) (fun _ _ _ _ _ => (pg_name (i := 6) sc_law.nd rfl (by first | exact Or.inl rfl | exact Or.inr rfl))) (fun _ _ _ _ _ => pts_nil) (fun _ _ _ _ _ => (pe_and (pe_cmpR (op_eqK (K := K) rfl hr.units) (pe_ix (ix_K (K := K) rfl hu) (pv 6) pe_int (fun _ _ => rfl)) (pe_d d_rate_of (hr.mono (by decide)) rfl pass0 (pa_cons (pv 5) (pa_cons (pe_ix (ix_K (K := K) rfl hu) (pv 6) pe_int (fun _ _ => rfl)) pa_nil))) (nomark _)) (pe_one (pe_d d__law_within (hr.mono (by decide)) rfl pass0 (pa_cons (pv 5) (pa_cons (pe_ix (ix_K (K := K) rfl hu) (pv 6) pe_int (fun _ _ => rfl)) pa_nil))))))) pa_nil)))))))))))), ?_⟩
  refine go_start (σ := [some a0, none, none, none, none, none, none, none]) rfl ?_
  try dsimp only [cxOf, Cx.nox, Cx.wish, Cx.tr, Cx.suite]
  obtain ⟨a, ns, rfl, hS, hn, hq⟩ := h
  have st0 : Sta H [] H := .nil
  walk_at "*"
  refine go_sp2 ⟨H, [], a, ns, 40, rfl, rfl, hS, by omega, by omega, st0, fun t pt bl gl p0 p1 p2 bs zs gs F1 H1 q0 q1 q2 bok nd zok lz gok lg s1 et ept ebl egl gf st1 => ?_⟩
  clear st0
  have nm : ∀ z ∈ zs, NmOk z := fun z m => (zok z m).1
  walk_at "*"
  refine go_sp3 ⟨F1, _, pt, bl, gl, p0, p1, p2, bs, zs, gs, rfl, rfl, rfl, ept, ebl, egl, gf, by omega, gok, st1, fun l rs F2 H2 ers hrs s2 st2 => ?_⟩
  clear st1
  obtain ⟨F10, s10, el, st10⟩ := st2.freeze .rfl
  obtain ⟨H10, eH10⟩ : ∃ H10, H10 = H2 := ⟨_, rfl⟩
  subst eH10
  clear st2
  have hrs := hrs.same s10
  have perm := insAll_perm (bs := bs) (tabG p0 p1 p2 (gv gs))
  have lgv : (gv gs).length ≤ 40 := by rw [List.length_map]; exact lg
  have lrs : rs.length ≤ 80 := by
    have h1 := congrArg List.length ers
    have h2 := tabG_len (p0 := p0) (p1 := p1) (p2 := p2) (gs := gv gs)
    rw [perm.length_eq, List.length_map] at h1
    omega
  walk_at "*"
  refine go_iL (.of (st10.of el)) ?_
  refine LcW.sta (walk_emb (xs := rs) (emb := fun r => V.ref r.1)) (fun i ys F' L' => ys = (rs.take i).map (fun r => V.int r.2.2.2.w) ∧ Same F10 F' ∧ L' = []) (by omega) st10 ⟨by rw [List.take_zero]; rfl, .refl _, rfl⟩ (fun i ys F' L H' _ st' ⟨_, s', _⟩ => .of (st'.of (s' _ _ el))) ?_ ?_
  · rintro A i v ys F8 L' H8 H9 hi hl' st8 ⟨rfl, s8, rfl⟩ ⟨rfl, ey⟩ yes no hy hno
    have ex : rs[i]? = some rs[i] := List.getElem?_eq_getElem hi
    have mo : rs[i] ∈ rs := List.getElem_mem hi
    have et : (rs.take (i + 1)).map (fun r => V.int r.2.2.2.w) = (rs.take i).map (fun r => V.int r.2.2.2.w) ++ [.int rs[i].2.2.2.w] := by rw [List.take_add_one, ex, List.map_append]; rfl
    rw [List.getElem?_map, ex] at ey
    generalize rs[i] = r at *
    have ey := (Option.some.inj ey).symm
    subst ey
    have er := s8 _ _ (hrs _ mo).1
    clear st10
    refine go_name rfl ⟨rfl, ?_⟩
    walk_at "*"
    exact hy _ F8 _ _ st8 ⟨et.symm, s8, rfl⟩
  rintro A ys F11 L H11 st11 - ⟨rfl, s11, rfl⟩
  rw [List.take_of_length_le (Nat.le_refl _), show rs.map (fun r => V.int r.2.2.2.w) = ((rs.map fun r => r.2.2).map fun t => t.2.w).map V.int by rw [List.map_map, List.map_map]; rfl] at st11
  clear st10
  have el := s11 _ _ el
  have hrs := hrs.same s11
  have e11 := st11.get (.head _)
  have st11 := st11.tail
  walk_at "*"
  refine go_sumXL (.of e11) ?_
  clear e11
  rw [show ((rs.map fun r => r.2.2).map fun t : TP => t.2.w).sum = sumK SV.w (tabG p0 p1 p2 (gv gs)) by rw [ers]; exact sumK_perm perm]
  walk_at "*"
  refine go_iL (.of (st11.of el)) ?_
  refine LcW.sta (walk_emb (xs := rs) (emb := fun r => V.ref r.1)) (fun i ys F' L' => ys = (rs.take i).map (fun r => V.int r.2.2.2.l) ∧ Same F11 F' ∧ L' = []) (by omega) st11 ⟨by rw [List.take_zero]; rfl, .refl _, rfl⟩ (fun i ys F' L H' _ st' ⟨_, s', _⟩ => .of (st'.of (s' _ _ el))) ?_ ?_
  · rintro A i v ys F8 L' H8 H9 hi hl' st8 ⟨rfl, s8, rfl⟩ ⟨rfl, ey⟩ yes no hy hno
    have ex : rs[i]? = some rs[i] := List.getElem?_eq_getElem hi
    have mo : rs[i] ∈ rs := List.getElem_mem hi
    have et : (rs.take (i + 1)).map (fun r => V.int r.2.2.2.l) = (rs.take i).map (fun r => V.int r.2.2.2.l) ++ [.int rs[i].2.2.2.l] := by rw [List.take_add_one, ex, List.map_append]; rfl
    rw [List.getElem?_map, ex] at ey
    generalize rs[i] = r at *
    have ey := (Option.some.inj ey).symm
    subst ey
    have er := s8 _ _ (hrs _ mo).1
    clear st11
    refine go_name rfl ⟨rfl, ?_⟩
    walk_at "*"
    exact hy _ F8 _ _ st8 ⟨et.symm, s8, rfl⟩
  rintro A ys F12 L H12 st12 - ⟨rfl, s12, rfl⟩
  rw [List.take_of_length_le (Nat.le_refl _), show rs.map (fun r => V.int r.2.2.2.l) = ((rs.map fun r => r.2.2).map fun t => t.2.l).map V.int by rw [List.map_map, List.map_map]; rfl] at st12
  clear st11
  have el := s12 _ _ el
  have hrs := hrs.same s12
  have e12 := st12.get (.head _)
  have st12 := st12.tail
  walk_at "*"
  refine go_sumXL (.of e12) ?_
  clear e12
  rw [show ((rs.map fun r => r.2.2).map fun t : TP => t.2.l).sum = sumK SV.l (tabG p0 p1 p2 (gv gs)) by rw [ers]; exact sumK_perm perm]
  walk_at "*"
  rw [sum_w, sum_l]
  refine ite_F (by simp) ?_
  walk_at "*"
  refine go_iL (.of (st12.of el)) ?_
  refine LcW.sta (walk_emb (xs := rs) (emb := fun r => V.ref r.1)) (fun i ys F' L' => ys = (rs.take i).map (fun r => V.int r.2.2.2.t) ∧ Same F12 F' ∧ L' = []) (by omega) st12 ⟨by rw [List.take_zero]; rfl, .refl _, rfl⟩ (fun i ys F' L H' _ st' ⟨_, s', _⟩ => .of (st'.of (s' _ _ el))) ?_ ?_
  · rintro A i v ys F8 L' H8 H9 hi hl' st8 ⟨rfl, s8, rfl⟩ ⟨rfl, ey⟩ yes no hy hno
    have ex : rs[i]? = some rs[i] := List.getElem?_eq_getElem hi
    have mo : rs[i] ∈ rs := List.getElem_mem hi
    have et : (rs.take (i + 1)).map (fun r => V.int r.2.2.2.t) = (rs.take i).map (fun r => V.int r.2.2.2.t) ++ [.int rs[i].2.2.2.t] := by rw [List.take_add_one, ex, List.map_append]; rfl
    rw [List.getElem?_map, ex] at ey
    generalize rs[i] = r at *
    have ey := (Option.some.inj ey).symm
    subst ey
    have er := s8 _ _ (hrs _ mo).1
    clear st12
    refine go_name rfl ⟨rfl, ?_⟩
    walk_at "*"
    exact hy _ F8 _ _ st8 ⟨et.symm, s8, rfl⟩
  rintro A ys F13 L H13 st13 - ⟨rfl, s13, rfl⟩
  rw [List.take_of_length_le (Nat.le_refl _), show rs.map (fun r => V.int r.2.2.2.t) = ((rs.map fun r => r.2.2).map fun t => t.2.t).map V.int by rw [List.map_map, List.map_map]; rfl] at st13
  clear st12
  have el := s13 _ _ el
  have hrs := hrs.same s13
  have e13 := st13.get (.head _)
  have st13 := st13.tail
  walk_at "*"
  refine go_sumXL (.of e13) ?_
  clear e13
  rw [show ((rs.map fun r => r.2.2).map fun t : TP => t.2.t).sum = sumK SV.t (tabG p0 p1 p2 (gv gs)) by rw [ers]; exact sumK_perm perm]
  walk_at "*"
  have ebl := ((s2.trans s10).trans (s11.trans (s12.trans s13))) _ _ ebl
  have egl := ((s2.trans s10).trans (s11.trans (s12.trans s13))) _ _ egl
  have ept := ((s2.trans s10).trans (s11.trans (s12.trans s13))) _ _ ept
  have gf := gf.same ((s2.trans s10).trans (s11.trans (s12.trans s13)))
  refine go_iL (.of (st13.of egl)) ?_
  refine LcW.sta (walk_emb (xs := gs) (emb := fun x => V.ref x.1)) (fun i ys F' L' => ys = ((gs.take i).filter fun x => decide (x.2.r = x.2.s)).map (fun x => V.ref x.1) ∧ Same F13 F' ∧ L' = []) (by omega) st13 ⟨by rw [List.take_zero]; rfl, .refl _, rfl⟩ (fun i ys F' L H' _ st' ⟨_, s', _⟩ => .of (st'.of (s' _ _ egl))) ?_ ?_
  · rintro A i v ys F8 L' H8 H9 hi hl' st8 ⟨rfl, s8, rfl⟩ ⟨rfl, ey⟩ yes no hy hno
    have ex : gs[i]? = some gs[i] := List.getElem?_eq_getElem hi
    have mo : gs[i] ∈ gs := List.getElem_mem hi
    have et : gs.take (i + 1) = gs.take i ++ [gs[i]] := by rw [List.take_add_one, ex]; rfl
    rw [List.getElem?_map, ex] at ey
    generalize gs[i] = x at *
    have ey := (Option.some.inj ey).symm
    subst ey
    have fx := s8 _ _ (gf x mo)
    obtain ⟨q, g⟩ := x
    clear st13
    refine go_name rfl ⟨rfl, ?_⟩
    walk_at "*"
    rw [decI]
    by_cases c : g.r = g.s
    · refine ite_T (decide_eq_true c) ?_
      walk_at "*"
      exact hy _ F8 _ _ st8 ⟨by rw [et, List.filter_append, List.map_append]; congr 1; rw [List.filter_cons, if_pos (decide_eq_true c)]; rfl, s8, rfl⟩
    · refine ite_F (decide_eq_false c) ?_
      exact hno F8 _ _ st8 ⟨by rw [et, List.filter_append, List.filter_cons, if_neg (by simp [c])]; simp, s8, rfl⟩
  rintro A ys F14 L H14 st14 - ⟨rfl, s14, rfl⟩
  rw [List.take_of_length_le (Nat.le_refl _)] at st14
  clear st13
  have lf : ((gs.filter fun x => decide (x.2.r = x.2.s)).map fun x => V.ref x.1).length = ((gv gs).filter fun g => decide (g.r = g.s)).length := by
    rw [List.length_map, List.filter_map, List.length_map]; rfl
  have lf2 : ((gv gs).filter fun g => decide (g.r = g.s)).length ≤ 40 := Nat.le_trans (List.length_filter_le _ _) lgv
  walk_at "*"
  rw [lf, sum_t]
  generalize ((gv gs).filter fun g => decide (g.r = g.s)).length = nt at *
  walk_at "*"
  refine ite_F (by simp) ?_
  have el := s14 _ _ el
  have hrs := hrs.same s14
  have st14 := st14.tail
  have ebl := s14 _ _ ebl
  have egl := s14 _ _ egl
  have ept := s14 _ _ ept
  have gf := gf.same s14
  walk_at "*"
  refine go_iL (.of (st14.of el)) ?_
  refine LcW.sta (walk_emb (xs := rs) (emb := fun r => V.ref r.1)) (fun i ys F' L' => ys = (rs.take i).map (fun r => V.int r.2.2.2.pts) ∧ Same F14 F' ∧ L' = []) (by omega) st14 ⟨by rw [List.take_zero]; rfl, .refl _, rfl⟩ (fun i ys F' L H' _ st' ⟨_, s', _⟩ => .of (st'.of (s' _ _ el))) ?_ ?_
  · rintro A i v ys F8 L' H8 H9 hi hl' st8 ⟨rfl, s8, rfl⟩ ⟨rfl, ey⟩ yes no hy hno
    have ex : rs[i]? = some rs[i] := List.getElem?_eq_getElem hi
    have mo : rs[i] ∈ rs := List.getElem_mem hi
    have et : (rs.take (i + 1)).map (fun r => V.int r.2.2.2.pts) = (rs.take i).map (fun r => V.int r.2.2.2.pts) ++ [.int rs[i].2.2.2.pts] := by rw [List.take_add_one, ex, List.map_append]; rfl
    rw [List.getElem?_map, ex] at ey
    generalize rs[i] = r at *
    have ey := (Option.some.inj ey).symm
    subst ey
    have er := s8 _ _ (hrs _ mo).1
    clear st14
    refine go_name rfl ⟨rfl, ?_⟩
    walk_at "*"
    exact hy _ F8 _ _ st8 ⟨et.symm, s8, rfl⟩
  rintro A ys F15 L H15 st15 - ⟨rfl, s15, rfl⟩
  rw [List.take_of_length_le (Nat.le_refl _), show rs.map (fun r => V.int r.2.2.2.pts) = ((rs.map fun r => r.2.2).map fun t => t.2.pts).map V.int by rw [List.map_map, List.map_map]; rfl] at st15
  clear st14
  have el := s15 _ _ el
  have hrs := hrs.same s15
  have e15 := st15.get (.head _)
  have st15 := st15.tail
  walk_at "*"
  refine go_sumXL (.of e15) ?_
  clear e15
  rw [show ((rs.map fun r => r.2.2).map fun t : TP => t.2.pts).sum = sumK SV.pts (tabG p0 p1 p2 (gv gs)) by rw [ers]; exact sumK_perm perm]
  walk_at "*"
  have ebl := s15 _ _ ebl
  have egl := s15 _ _ egl
  have ept := s15 _ _ ept
  have gf := gf.same s15
  rw [sum_p]
  refine go_sp2 ⟨F15, _, pt, gl, p0, p1, p2, gs, rfl, rfl, ept, egl, gf, by omega, st15, ?_⟩
  walk_at "*"
  refine ite_F (by simp) ?_
  walk_at "*"
  refine go_sp1 ⟨F15, _, gl, gs, rfl, egl, gf, by omega, st15, fun tl gs2 F16 H16 eg2 s16 etl gf2 st16 => ?_⟩
  clear st15
  have nets : ∀ g ∈ gv gs, g.a ≠ g.b := fun g m => (gok g m).ne
  have gok2 : ∀ g ∈ gv gs2, LGok zs g := fun g m => by
    rw [eg2] at m
    obtain ⟨x, mx, rfl⟩ := List.mem_map.mp m
    have k := gok x (List.mem_reverse.mp mx)
    exact ⟨k.b, k.a, k.ne.symm, k.s, k.r, k.m, k.n⟩
  have lg2 : gs2.length ≤ 40 := by
    have := congrArg List.length eg2
    rw [List.length_map, List.length_map, List.length_reverse] at this
    omega
  walk_at "*"
  refine go_sp3 ⟨F16, _, pt, bl, tl, p0, p1, p2, bs, zs, gs2, rfl, rfl, rfl, s16 _ _ ept, s16 _ _ ebl, etl, gf2, by omega, gok2, st16, fun l2 rs2 F17 H17 ers2 hrs2 s17 st17 => ?_⟩
  clear st16
  obtain ⟨F18, s18, el2, st18⟩ := st17.freeze .rfl
  clear st17
  have tt := tab_turn (p0 := p0) (p1 := p1) (p2 := p2) nets
  rw [← eg2] at tt
  have s15_ := s16.trans (s17.trans s18)
  have el := s15_ _ _ el
  have hrs := hrs.same s15_
  have ebl := s15_ _ _ ebl
  have egl := s15_ _ _ egl
  have ept := s15_ _ _ ept
  have gf := gf.same s15_
  have hrs2 := hrs2.same s18
  have ndt := tabG_nd (p0 := p0) (p1 := p1) (p2 := p2) (gs := gv gs)
  have perm2 := insAll_perm (bs := bs) (tabG p0 p1 p2 (gv gs2))
  have esort : (rs2.map fun r => r.2.2).mergeSort (PySem.W.dataLe false dRow) = (rs.map fun r => r.2.2).mergeSort (PySem.W.dataLe false dRow) := by
    rw [ers, ers2]
    refine (sort_rows (perm.trans (tt.symm.trans perm2.symm)) ?_).symm
    exact ((perm.map _).nodup_iff).mpr ndt
  have okn : ∀ t ∈ insAll bs (tabG p0 p1 p2 (gv gs)), okV (.str t.1) = true := fun t m => by
    obtain ⟨-, g, mg, e⟩ := tabG_mem (z := t.1) (x := t.2) (perm.mem_iff.mp m)
    rcases e with e | e
    · rw [e]; exact (nm _ (gok g mg).a).ok
    · rw [e]; exact (nm _ (gok g mg).b).ok
  walk_at "*"
  refine go_cut (fun σ' H' => ∃ F', Same F18 F' ∧ Sta F' [] H' ∧ σ' = [some (.ref a), some (.ref l), some (.ref l2), some (.ref pt), some (.ref bl), some (.ref gl), none, none]) ?_ ?_
  · walk_at "*"
    refine go_sortRs st18 el hrs fun pa F19 H19 s19 st19 d19 e19 => ?_
    clear st18
    walk_at "*"
    refine go_sortRs st19 (s19 _ _ el2) (hrs2.same s19) fun pb F20 H20 s20 st20 d20 e20 => ?_
    have sr := s19.trans s20
    have d19 := sort_dp (K := K) st20 (s20 _ _ e19) (hrs.same sr)
    have d20 := sort_dp (K := K) st20 e20 (hrs2.same sr)
    rw [esort] at d20
    have okn : ∀ t ∈ insAll bs (tabG p0 p1 p2 (gv gs)), okV (.str t.1) = true := fun t m => by
      obtain ⟨-, g, mg, e⟩ := tabG_mem (z := t.1) (x := t.2) (perm.mem_iff.mp m)
      rcases e with e | e
      · rw [e]; exact (nm _ (gok g mg).a).ok
      · rw [e]; exact (nm _ (gok g mg).b).ok
    have oks := dRs_ok (ts := (rs.map fun r => r.2.2).mergeSort (PySem.W.dataLe false dRow)) fun t m => okn t (by rw [← ers]; exact (List.mergeSort_perm _ _).mem_iff.mp m)
    refine go_neDs d19 d20 oks.1 oks.2 ?_
    clear st19 d19 d20
    have el := sr _ _ el
    have hrs := hrs.same sr
    have ebl := sr _ _ ebl
    have egl := sr _ _ egl
    have gf := gf.same sr
    have el2 := sr _ _ el2
    have hrs2 := hrs2.same sr
    walk_at "*"
    refine go_inL (.of (st20.of ebl)) rfl (List.all_eq_true.mpr fun v m => by obtain ⟨z, -, rfl⟩ := List.mem_map.mp m; rfl) ?_
    rw [inv_ss]
    by_cases mn : ("name" : Str) ∈ bs
    · rw [decide_eq_true mn]
      walk_at "*"
      have eo : insAll bs (tabG p0 p1 p2 (gv gs)) = insAll bs (tabG p0 p1 p2 (gv gs2)) := insAll_one mn tt.symm ndt fun t m => by
        obtain ⟨e, hi⟩ := tabG_mem (z := t.1) (x := t.2) m
        obtain ⟨i0, i1, i2⟩ := hiG_ok (p0 := p0) (p1 := p1) (p2 := p2) (z := t.1) (gv gs) gok
        rw [e]
        exact (rate_in (hasG_SV gok hi) (by omega) i0 i1 i2).1
      have r1 := rs_dp (K := K) (l := l) (rs := rs) (.of (st20.of el)) (fun r m => ⟨st20.of (hrs r m).1, st20.of (hrs r m).2⟩)
      have r2 := rs_dp (K := K) (l := l2) (rs := rs2) (.of (st20.of el2)) (fun r m => ⟨st20.of (hrs2 r m).1, st20.of (hrs2 r m).2⟩)
      rw [ers2, ← eo] at r2
      rw [ers] at r1
      have okr := dRs_ok okn
      refine go_neDs r1 r2 okr.1 okr.2 ?_
      walk_at "*"
      exact ⟨F20, sr, st20, rfl⟩
    · rw [decide_eq_false mn]
      walk_at "*"
      exact ⟨F20, sr, st20, rfl⟩
  rintro σ' H19 ⟨F19, s19, st19, rfl⟩
  clear st18
  have el := s19 _ _ el
  have hrs := hrs.same s19
  have egl := s19 _ _ egl
  have gf := gf.same s19
  walk_at "*"
  refine go_iL (.of (st19.of el)) ?_
  refine LcW.sta (walk_emb (xs := rs) (emb := fun r => V.ref r.1)) (fun i ys F' L' => ys = (List.range i).map (fun _ => V.bl true) ∧ Same F19 F' ∧ L' = []) (by omega) st19 ⟨rfl, .refl _, rfl⟩ (fun i ys F' L H' _ st' ⟨_, s', _⟩ => .of (st'.of (s' _ _ el))) ?_ ?_
  · rintro A i v ys F8 L' H8 H9 hi hl' st8 ⟨rfl, s8, rfl⟩ ⟨rfl, ey⟩ yes no hy hno
    have ex : rs[i]? = some rs[i] := List.getElem?_eq_getElem hi
    have mo : rs[i] ∈ rs := List.getElem_mem hi
    rw [List.getElem?_map, ex] at ey
    generalize rs[i] = r at *
    have ey := (Option.some.inj ey).symm
    subst ey
    have er1 := s8 _ _ (hrs _ mo).1
    have er2 := s8 _ _ (hrs _ mo).2
    have mi : r.2.2 ∈ insAll bs (tabG p0 p1 p2 (gv gs)) := by rw [← ers]; exact List.mem_map_of_mem (f := fun r : Addr × Addr × TP => r.2.2) mo
    obtain ⟨ra, rq, z, x⟩ := r
    obtain ⟨ee, hi2⟩ := tabG_mem (z := z) (x := x) (perm.mem_iff.mp mi)
    clear st19
    refine go_name rfl ⟨rfl, ?_⟩
    walk_at "*"
    refine go_sp2 ⟨F8, _, gl, gs, zs, z, rfl, rfl, s8 _ _ egl, gf.same s8, by omega, gok, hi2, st8, fun t2 F21 H21 s21 e21 st21 => ?_⟩
    rw [rate_pts (q0 := p0) (q1 := p1) (q2 := p2), ← ee] at e21
    clear st8
    have okq : (rateL x).all okV = true := rfl
    refine go_eqDs (.tup (.of (st21.of (s21 _ _ er2))) (DpAll.flat (okV_all okq))) (.tup (.of (st21.of e21)) (DpAll.flat (okV_all okq))) (layAll_flat okq) (by simp only [PyData.depth]; rw [depthAll_flat]; omega) ?_
    have er1 := s21 _ _ er1
    walk_at "*"
    refine go_sp2 ⟨F21, _, gl, gs, zs, z, rfl, rfl, (s8.trans s21) _ _ egl, gf.same (s8.trans s21), by omega, gok, hi2, st21, fun F22 H22 s22 st22 => ?_⟩
    clear st21
    walk_at "*"
    exact hy _ F22 _ _ st22 ⟨by rw [List.range_succ, List.map_append]; rfl, s8.trans (s21.trans s22), rfl⟩
  rintro A ys F20 L H20 st20 - ⟨rfl, s20, rfl⟩
  clear st19
  walk_at "*"
  have e20 := st20.get (.head _)
  rw [show (List.range rs.length).map (fun _ => V.bl true) = ((List.range rs.length).map fun _ => true).map V.bl by rw [List.map_map]; rfl] at e20
  refine go_all (.of e20) ?_
  rw [show ((List.range rs.length).map fun _ => true).all id = true from List.all_eq_true.mpr fun b m => by obtain ⟨k, -, rfl⟩ := List.mem_map.mp m; rfl]
  exact hq _
/-! ### the head -/
def D__law_at : He.DefD := ⟨("_law_at", none), "_law_at", "_law_at", defArgs s__law_at, defBody s__law_at, defScope s__law_at, [], []⟩
def D__law_mixed : He.DefD := ⟨("_law_mixed", none), "_law_mixed", "_law_mixed", defArgs s__law_mixed, defBody s__law_mixed, defScope s__law_mixed, [], []⟩
def D__law_names : He.DefD := ⟨("_law_names", none), "_law_names", "_law_names", defArgs s__law_names, defBody s__law_names, defScope s__law_names, [], []⟩
def D__law_small_game : He.DefD := ⟨("_law_small_game", none), "_law_small_game", "_law_small_game", defArgs s__law_small_game, defBody s__law_small_game, defScope s__law_small_game, [], []⟩
def D__law_games : He.DefD := ⟨("_law_games", none), "_law_games", "_law_games", defArgs s__law_games, defBody s__law_games, defScope s__law_games, [], []⟩
def D__law_breakers : He.DefD := ⟨("_law_breakers", none), "_law_breakers", "_law_breakers", defArgs s__law_breakers, defBody s__law_breakers, defScope s__law_breakers, [], []⟩
def D__law_league : He.DefD := ⟨("_law_league", none), "_law_league", "_law_league", defArgs s__law_league, defBody s__law_league, defScope s__law_league, [], []⟩
def D_common_part : He.DefD := ⟨("common_part", none), "common_part", "common_part", defArgs s_common_part, defBody s_common_part, defScope s_common_part, [], []⟩
def D_lowest_terms : He.DefD := ⟨("lowest_terms", none), "lowest_terms", "lowest_terms", defArgs s_lowest_terms, defBody s_lowest_terms, defScope s_lowest_terms, [], []⟩
def D_Standing_init : He.DefD := ⟨("Standing", some "__init__"), "__init__", "Standing.__init__", defArgs s_Standing_init, defBody s_Standing_init, defScope s_Standing_init, [], []⟩
def D_Standing_take_game : He.DefD := ⟨("Standing", some "take_game"), "take_game", "Standing.take_game", defArgs s_Standing_take_game, defBody s_Standing_take_game, defScope s_Standing_take_game, [], []⟩
def D_Standing_rate : He.DefD := ⟨("Standing", some "rate"), "rate", "Standing.rate", defArgs s_Standing_rate, defBody s_Standing_rate, defScope s_Standing_rate, [], []⟩
def D_standings : He.DefD := ⟨("standings", none), "standings", "standings", defArgs s_standings, defBody s_standings, defScope s_standings, [], []⟩
def D_rate_of : He.DefD := ⟨("rate_of", none), "rate_of", "rate_of", defArgs s_rate_of, defBody s_rate_of, defScope s_rate_of, [], []⟩
def D_goes_ahead : He.DefD := ⟨("goes_ahead", none), "goes_ahead", "goes_ahead", defArgs s_goes_ahead, defBody s_goes_ahead, defScope s_goes_ahead, [], []⟩
def D_standing : He.DefD := ⟨("standing", none), "standing", "standing", defArgs s_standing, defBody s_standing, defScope s_standing, [], []⟩
def D__law_turned : He.DefD := ⟨("_law_turned", none), "_law_turned", "_law_turned", defArgs s__law_turned, defBody s__law_turned, defScope s__law_turned, [], []⟩
def D__law_due_points : He.DefD := ⟨("_law_due_points", none), "_law_due_points", "_law_due_points", defArgs s__law_due_points, defBody s__law_due_points, defScope s__law_due_points, [], []⟩
def D__law_within : He.DefD := ⟨("_law_within", none), "_law_within", "_law_within", defArgs s__law_within, defBody s__law_within, defScope s__law_within, [], []⟩
def D_law : He.DefD := ⟨("law", none), "law", "law", defArgs s_law, defBody s_law, defScope s_law, [], []⟩
def fn : List He.DefD := [D__law_at, D__law_mixed, D__law_names, D__law_small_game, D__law_games, D__law_breakers, D__law_league, D_common_part, D_lowest_terms, D_Standing_init, D_Standing_take_game, D_Standing_rate, D_standings, D_rate_of, D_goes_ahead, D_standing, D__law_turned, D__law_due_points, D__law_within, D_law]
def fa : List He.Fa := [.glo "_law_at", .glo "_law_mixed", .glo "_law_names", .glo "_law_small_game", .glo "_law_games", .glo "_law_breakers", .glo "_law_league", .glo "common_part", .glo "lowest_terms", .mkr "Standing", .glo "Standing", .cls "Standing", .meth "Standing" "take_game", .meth "Standing" "rate", .glo "standings", .glo "rate_of", .glo "goes_ahead", .glo "standing", .glo "_law_turned", .glo "_law_due_points", .glo "_law_within", .glo "law", .noat "Standing" "faced", .noat "Standing" "points", .noat "Standing" "runs", .noat "Standing" "tallies", .free "abs", .free "all", .free "enumerate", .free "int", .free "len", .free "max", .free "min", .free "range", .free "reversed", .free "sorted", .free "sum", .free "tuple"]
def xs : List (PySem.W.Frag → Bool) := []
abbrev R : PySem.W.OpenRow := PySem.W.OpenLaw.row PySem.Challenge.rw_inningsbook_k74_whole_games_any_way_abou
abbrev hk : PySem.W.Hook := hookX 4 fa fn xs
def ob (s : PySem.W.SharedT) : Bool × He.AlD := obsXG 4 fa fn xs (HandSHeadRun.getT s)
theorem ob_eq (s : PySem.W.SharedT) : ob s = hk.obs s.abs := obsXG_eq (HandSHeadRun.getT_eq s)
abbrev loose : List Str := (["common_part", "lowest_terms", "Standing", "standings", "rate_of", "goes_ahead", "standing", "_law_at", "_law_mixed", "_law_names", "_law_breakers", "_law_small_game", "_law_games", "_law_league", "_law_turned", "_law_due_points", "_law_within"] : List Str)
theorem run (w : World) : HandSHeadRun.RunEq R (PySem.W.view R.prog [19]) hk ob 6000 loose w := by
  intro os
  kernel_rfl
theorem facts {P : Program} {w : World} {K : PySem.W.Frag} {h : Heap} {mg : Str → Option Value} {f : Addr} (X : K.In h) (G : h.Ns mainGlobals mg) (hfa : mg ("law" : Str) = some (.ref f)) (c : He.SaysD fa fn K) (cx : (xs.all fun f => f K) = true) :
    ∃ fd : FuncData, (∀ (s : Shared) (v : Value), BindsTo s fd ⟨[v], []⟩ [("_law_script", v)]) ∧ ∀ base : Heap, K.In base → base.Ns mainGlobals mg → FnOk P w K mg base CX0 6 f fd ["_law_script"] (sp_law K) := by
  have T : Txt K mg := ⟨He.free_ok X G (c.fact 26 (f := .free "abs") rfl), He.free_ok X G (c.fact 27 (f := .free "all") rfl), He.free_ok X G (c.fact 28 (f := .free "enumerate") rfl), He.free_ok X G (c.fact 29 (f := .free "int") rfl), He.free_ok X G (c.fact 30 (f := .free "len") rfl), He.free_ok X G (c.fact 31 (f := .free "max") rfl), He.free_ok X G (c.fact 32 (f := .free "min") rfl), He.free_ok X G (c.fact 33 (f := .free "range") rfl), He.free_ok X G (c.fact 34 (f := .free "reversed") rfl), He.free_ok X G (c.fact 35 (f := .free "sorted") rfl), He.free_ok X G (c.fact 36 (f := .free "sum") rfl), He.free_ok X G (c.fact 37 (f := .free "tuple") rfl), He.cls_ok (c.fact 11 (f := .cls "Standing") rfl), He.noat_ok (c.fact 22 (f := .noat "Standing" "faced") rfl), He.noat_ok (c.fact 23 (f := .noat "Standing" "points") rfl), He.noat_ok (c.fact 24 (f := .noat "Standing" "runs") rfl), He.noat_ok (c.fact 25 (f := .noat "Standing" "tallies") rfl)⟩
  obtain ⟨fd__law_at, F__law_at⟩ := c.def_ 0 (d := D__law_at) rfl
  obtain ⟨fd__law_mixed, F__law_mixed⟩ := c.def_ 1 (d := D__law_mixed) rfl
  obtain ⟨fd__law_names, F__law_names⟩ := c.def_ 2 (d := D__law_names) rfl
  obtain ⟨fd__law_small_game, F__law_small_game⟩ := c.def_ 3 (d := D__law_small_game) rfl
  obtain ⟨fd__law_games, F__law_games⟩ := c.def_ 4 (d := D__law_games) rfl
  obtain ⟨fd__law_breakers, F__law_breakers⟩ := c.def_ 5 (d := D__law_breakers) rfl
  obtain ⟨fd__law_league, F__law_league⟩ := c.def_ 6 (d := D__law_league) rfl
  obtain ⟨fd_common_part, F_common_part⟩ := c.def_ 7 (d := D_common_part) rfl
  obtain ⟨fd_lowest_terms, F_lowest_terms⟩ := c.def_ 8 (d := D_lowest_terms) rfl
  obtain ⟨fd_Standing_init, F_Standing_init⟩ := c.def_ 9 (d := D_Standing_init) rfl
  obtain ⟨fd_Standing_take_game, F_Standing_take_game⟩ := c.def_ 10 (d := D_Standing_take_game) rfl
  obtain ⟨fd_Standing_rate, F_Standing_rate⟩ := c.def_ 11 (d := D_Standing_rate) rfl
  obtain ⟨fd_standings, F_standings⟩ := c.def_ 12 (d := D_standings) rfl
  obtain ⟨fd_rate_of, F_rate_of⟩ := c.def_ 13 (d := D_rate_of) rfl
  obtain ⟨fd_goes_ahead, F_goes_ahead⟩ := c.def_ 14 (d := D_goes_ahead) rfl
  obtain ⟨fd_standing, F_standing⟩ := c.def_ 15 (d := D_standing) rfl
  obtain ⟨fd__law_turned, F__law_turned⟩ := c.def_ 16 (d := D__law_turned) rfl
  obtain ⟨fd__law_due_points, F__law_due_points⟩ := c.def_ 17 (d := D__law_due_points) rfl
  obtain ⟨fd__law_within, F__law_within⟩ := c.def_ 18 (d := D__law_within) rfl
  obtain ⟨fd_law, F_law⟩ := c.def_ 19 (d := D_law) rfl
  have e := hfa.symm.trans (He.glo_ok X G (c.fact 21 (f := .glo "law") rfl))
  cases e
  have b := FunD.bindsA (ps := ["_law_script"]) F_law fun _ _ _ _ _ _ us hl => match us, hl with | [_], _ => rfl
  refine ⟨fd_law, fun s v => b s [v] rfl, fun base hb hn => ?_⟩
  have d__law_at : Dn P w K mg base CX0 1 "_law_at" ["_law_script", "_law_k"] [] (sp__law_at K) := ⟨⟨_, _, [], ok__law_at F__law_at T , He.glo_ok X G (c.fact 0 (f := .glo "_law_at") rfl), F__law_at.kp, FunD.bindsN F__law_at fun _ _ _ _ _ _ us hl => match us, hl with | [_, _], _ => rfl, .nil⟩⟩
  have d__law_mixed : Dn P w K mg base CX0 1 "_law_mixed" ["_law_cell", "_law_k"] [] (sp__law_mixed K) := ⟨⟨_, _, [], ok__law_mixed F__law_mixed T , He.glo_ok X G (c.fact 1 (f := .glo "_law_mixed") rfl), F__law_mixed.kp, FunD.bindsN F__law_mixed fun _ _ _ _ _ _ us hl => match us, hl with | [_, _], _ => rfl, .nil⟩⟩
  have d__law_names : Dn P w K mg base CX0 2 "_law_names" ["_law_cell", "_law_many"] [] (sp__law_names K) := ⟨⟨_, _, [], ok__law_names F__law_names T d__law_mixed, He.glo_ok X G (c.fact 2 (f := .glo "_law_names") rfl), F__law_names.kp, FunD.bindsN F__law_names fun _ _ _ _ _ _ us hl => match us, hl with | [_, _], _ => rfl, .nil⟩⟩
  have d__law_small_game : Dn P w K mg base CX0 1 "_law_small_game" ["_law_names_here", "_law_n"] [] (sp__law_small_game K) := ⟨⟨_, _, [], ok__law_small_game F__law_small_game T , He.glo_ok X G (c.fact 3 (f := .glo "_law_small_game") rfl), F__law_small_game.kp, FunD.bindsN F__law_small_game fun _ _ _ _ _ _ us hl => match us, hl with | [_, _], _ => rfl, .nil⟩⟩
  have d__law_games : Dn P w K mg base CX0 2 "_law_games" ["_law_script", "_law_names_here", "_law_most"] [] (sp__law_games K) := ⟨⟨_, _, [], ok__law_games F__law_games T d__law_at d__law_small_game d__law_mixed, He.glo_ok X G (c.fact 4 (f := .glo "_law_games") rfl), F__law_games.kp, FunD.bindsN F__law_games fun _ _ _ _ _ _ us hl => match us, hl with | [_, _, _], _ => rfl, .nil⟩⟩
  have d__law_breakers : Dn P w K mg base CX0 1 "_law_breakers" ["_law_n"] [] (sp__law_breakers K) := ⟨⟨_, _, [], ok__law_breakers F__law_breakers T , He.glo_ok X G (c.fact 5 (f := .glo "_law_breakers") rfl), F__law_breakers.kp, FunD.bindsN F__law_breakers fun _ _ _ _ _ _ us hl => match us, hl with | [_], _ => rfl, .nil⟩⟩
  have d__law_league : Dn P w K mg base CX0 3 "_law_league" ["_law_script", "_law_most"] [] (sp__law_league K) := ⟨⟨_, _, [], ok__law_league F__law_league T d__law_names d__law_at d__law_breakers d__law_games, He.glo_ok X G (c.fact 6 (f := .glo "_law_league") rfl), F__law_league.kp, FunD.bindsN F__law_league fun _ _ _ _ _ _ us hl => match us, hl with | [_, _], _ => rfl, .nil⟩⟩
  have d_common_part : Dn P w K mg base CX0 1 "common_part" ["one", "other"] [] (sp_common_part K) := ⟨⟨_, _, [], ok_common_part F_common_part T , He.glo_ok X G (c.fact 7 (f := .glo "common_part") rfl), F_common_part.kp, FunD.bindsN F_common_part fun _ _ _ _ _ _ us hl => match us, hl with | [_, _], _ => rfl, .nil⟩⟩
  have d_lowest_terms : Dn P w K mg base CX0 2 "lowest_terms" ["number", "parts"] [] (sp_lowest_terms K) := ⟨⟨_, _, [], ok_lowest_terms F_lowest_terms T d_common_part, He.glo_ok X G (c.fact 8 (f := .glo "lowest_terms") rfl), F_lowest_terms.kp, FunD.bindsN F_lowest_terms fun _ _ _ _ _ _ us hl => match us, hl with | [_, _], _ => rfl, .nil⟩⟩
  have k_Standing : MkD P w K mg base CX0 1 (He.ga K "Standing") "Standing" ["self"] [] (sp_Standing_init K) := ⟨⟨_, _, [], ok_Standing_init F_Standing_init T , He.mkr_ok (c.fact 9 (f := .mkr "Standing") rfl), He.glo_ok X G (c.fact 10 (f := .glo "Standing") rfl), FunD.bindsN F_Standing_init fun _ _ _ _ _ _ us hl => match us, hl with | [_], _ => rfl, .nil⟩⟩
  have m_Standing_take_game : MtD P w K mg base CX0 1 (He.ga K "Standing") "take_game" ["self", "points", "runs", "balls"] [] (sp_Standing_take_game K) := ⟨⟨_, _, [], ok_Standing_take_game F_Standing_take_game T , He.meth_ok (c.fact 12 (f := .meth "Standing" "take_game") rfl), He.cls_ok (c.fact 11 (f := .cls "Standing") rfl), FunD.bindsN F_Standing_take_game fun _ _ _ _ _ _ us hl => match us, hl with | [_, _, _, _], _ => rfl, .nil⟩⟩
  have m_Standing_rate : MtD P w K mg base CX0 3 (He.ga K "Standing") "rate" ["self"] [] (sp_Standing_rate K) := ⟨⟨_, _, [], ok_Standing_rate F_Standing_rate T d_lowest_terms, He.meth_ok (c.fact 13 (f := .meth "Standing" "rate") rfl), He.cls_ok (c.fact 11 (f := .cls "Standing") rfl), FunD.bindsN F_Standing_rate fun _ _ _ _ _ _ us hl => match us, hl with | [_], _ => rfl, .nil⟩⟩
  have d_standings : Dn P w K mg base CX0 3 "standings" ["points", "games"] [] (sp_standings K) := ⟨⟨_, _, [], ok_standings F_standings T m_Standing_take_game k_Standing, He.glo_ok X G (c.fact 14 (f := .glo "standings") rfl), F_standings.kp, FunD.bindsN F_standings fun _ _ _ _ _ _ us hl => match us, hl with | [_, _], _ => rfl, .nil⟩⟩
  have d_rate_of : Dn P w K mg base CX0 4 "rate_of" ["games", "team"] [] (sp_rate_of K) := ⟨⟨_, _, [], ok_rate_of F_rate_of T d_standings m_Standing_rate, He.glo_ok X G (c.fact 15 (f := .glo "rate_of") rfl), F_rate_of.kp, FunD.bindsN F_rate_of fun _ _ _ _ _ _ us hl => match us, hl with | [_, _], _ => rfl, .nil⟩⟩
  have d_goes_ahead : Dn P w K mg base CX0 4 "goes_ahead" ["one", "other", "breakers"] [] (sp_goes_ahead K) := ⟨⟨_, _, [], ok_goes_ahead F_goes_ahead T m_Standing_rate, He.glo_ok X G (c.fact 16 (f := .glo "goes_ahead") rfl), F_goes_ahead.kp, FunD.bindsN F_goes_ahead fun _ _ _ _ _ _ us hl => match us, hl with | [_, _, _], _ => rfl, .nil⟩⟩
  have d_standing : Dn P w K mg base CX0 5 "standing" ["points", "breakers", "games"] [] (sp_standing K) := ⟨⟨_, _, [], ok_standing F_standing T d_standings d_goes_ahead m_Standing_rate, He.glo_ok X G (c.fact 17 (f := .glo "standing") rfl), F_standing.kp, FunD.bindsN F_standing fun _ _ _ _ _ _ us hl => match us, hl with | [_, _, _], _ => rfl, .nil⟩⟩
  have d__law_turned : Dn P w K mg base CX0 1 "_law_turned" ["_law_games_here"] [] (sp__law_turned K) := ⟨⟨_, _, [], ok__law_turned F__law_turned T , He.glo_ok X G (c.fact 18 (f := .glo "_law_turned") rfl), F__law_turned.kp, FunD.bindsN F__law_turned fun _ _ _ _ _ _ us hl => match us, hl with | [_], _ => rfl, .nil⟩⟩
  have d__law_due_points : Dn P w K mg base CX0 1 "_law_due_points" ["_law_points", "_law_games_here"] [] (sp__law_due_points K) := ⟨⟨_, _, [], ok__law_due_points F__law_due_points T , He.glo_ok X G (c.fact 19 (f := .glo "_law_due_points") rfl), F__law_due_points.kp, FunD.bindsN F__law_due_points fun _ _ _ _ _ _ us hl => match us, hl with | [_, _], _ => rfl, .nil⟩⟩
  have d__law_within : Dn P w K mg base CX0 5 "_law_within" ["_law_games_here", "_law_name"] [] (sp__law_within K) := ⟨⟨_, _, [], ok__law_within F__law_within T d_rate_of, He.glo_ok X G (c.fact 20 (f := .glo "_law_within") rfl), F__law_within.kp, FunD.bindsN F__law_within fun _ _ _ _ _ _ us hl => match us, hl with | [_, _], _ => rfl, .nil⟩⟩
  exact ok_law F_law T d__law_league d_standing d__law_due_points d__law_turned d__law_within d_rate_of
end L2.Toy
open PySem PySem.W PySem.Calls PyProof.Rows
set_option maxRecDepth 100000 in
set_option maxHeartbeats 0 in
theorem PySem.Challenge.cw_inningsbook_k74_whole_games_any_way_abou_holds : PySem.Challenge.rw_inningsbook_k74_whole_games_any_way_abou.Holds := by
  w_on; o_law
  refine HandSHeadRun.head_any (r := OpenLaw.row PySem.Challenge.rw_inningsbook_k74_whole_games_any_way_abou) (q := view (OpenLaw.row PySem.Challenge.rw_inningsbook_k74_whole_games_any_way_abou).prog [19]) (H := L2.Toy.hk) (ob := L2.Toy.ob) (M := 6000) (loose := L2.Toy.loose) (d := HandSHeadRun.topDef (OpenLaw.row PySem.Challenge.rw_inningsbook_k74_whole_games_any_way_abou).prog 19) (kwd := []) L2.Toy.ob_eq
    (by kernel_rfl) (fun s => by kernel_rfl) L2.Toy.run (by kernel_rfl) (by kernel_rfl) (by kernel_rfl) (by rfl) (by first | assumption | decide +kernel) (by decide +kernel) ⟨rfl, rfl, rfl, rfl, rfl, by decide +kernel⟩ ?hw ?hc
  case hw => w_witness2
  case hc =>
    refine L2.walk_ofE (l := PySem.Challenge.rw_inningsbook_k74_whole_games_any_way_abou) (n := 63) (k := 6) (x := "_law_script") (CX := L2.CX0) rfl (by decide) (by kernel_rfl) ⟨rfl, by decide, by decide⟩ ?F (fun _ _ _ _ z => z)
    intro w mg fa h Y G hmg0
    obtain ⟨K, KX, c, cx⟩ := Y
    have hmg : mg ("law" : PySem.Str) = some (.ref fa) := by
      have e : (HandSHeadRun.topDef (OpenLaw.row PySem.Challenge.rw_inningsbook_k74_whole_games_any_way_abou).prog 19).name = ("law" : PySem.Str) := by kernel_rfl
      rw [← e]
      exact hmg0
    obtain ⟨fd, hb, hF⟩ := L2.Toy.facts (P := (PySem.Challenge.rw_inningsbook_k74_whole_games_any_way_abou).prog) (w := w) KX G hmg c cx
    exact ⟨K, fd, L2.Toy.sp_law K, KX, hb, fun H a ns hl _ hS => ⟨L2.V.ref a, rfl, a, ns, rfl, hS, hl, fun _ => rfl⟩, hF⟩
#print axioms PySem.Challenge.cw_inningsbook_k74_whole_games_any_way_abou_holds

