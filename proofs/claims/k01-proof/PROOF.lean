import PyProof.Rows.All
import Wide.All
import OpenK.AllK
import Wide.FinOn
import HandS.ForMost
import HandS.ForExc
import HandS.IsInst
import HandS.Codes
import HandS.Flow
import HandS.Style
import HandS.Walk
import HandS.Conv
import HandS.Zip
import HandS.TupAny
import HandS.TupMul
import HandS.CallLocal
import HandS.TryMany
import HandS.ExcOwn
import HandS.ExcInit
import HandS.Words
import HandS.WordsExc
import HandS.SlotsOwn
import HandS.OwnEq
import HandS.ExcField
import HandS.FStr
import HandS.Defaults
import PySem.Challenge.RW_motionroads_k01_whole_ratios_of_shifts
set_option Elab.async false
set_option linter.all false
set_option maxRecDepth 100000
/-! Sx: readings without terms: what an expression, a test, a statement brings, goal by goal. -/
namespace Sx
abbrev Sl := L2.St
open PySem PySem.Spec PyProof.Rows L2

/-! ### slots by name -/
class inductive Var : List Str → Sl → Str → outParam V → outParam Nat → Prop
  | z {N : List Str} {σ : Sl} {x : Str} {v : V} : Var (x :: N) (some v :: σ) x v 0
  | s {N : List Str} {σ : Sl} {x y : Str} {v : V} {o : Option V} {i : Nat} (h : Var N σ x v i) : Var (y :: N) (o :: σ) x v (i + 1)
instance (priority := high) Var.iz {N : List Str} {σ : Sl} {x : Str} {v : V} : Var (x :: N) (some v :: σ) x v 0 := .z
instance (priority := low) Var.is {N : List Str} {σ : Sl} {x y : Str} {v : V} {o : Option V} {i : Nat} [h : Var N σ x v i] : Var (y :: N) (o :: σ) x v (i + 1) := .s h
theorem Var.n {N : List Str} {σ : Sl} {x : Str} {v : V} {i : Nat} (h : Var N σ x v i) : N[i]? = some x := by
  induction h with
  | z => rfl
  | s _ ih => simpa using ih
theorem Var.v {N : List Str} {σ : Sl} {x : Str} {v : V} {i : Nat} (h : Var N σ x v i) : σ[i]? = some (some v) := by
  induction h with
  | z => rfl
  | s _ ih => simpa using ih
class inductive Put : List Str → Sl → Str → V → outParam Sl → outParam Nat → Prop
  | z {N : List Str} {σ : Sl} {x : Str} {v : V} {o : Option V} : Put (x :: N) (o :: σ) x v (some v :: σ) 0
  | s {N : List Str} {σ σ' : Sl} {x y : Str} {v : V} {o : Option V} {i : Nat} (h : Put N σ x v σ' i) : Put (y :: N) (o :: σ) x v (o :: σ') (i + 1)
instance (priority := high) Put.iz {N : List Str} {σ : Sl} {x : Str} {v : V} {o : Option V} : Put (x :: N) (o :: σ) x v (some v :: σ) 0 := .z
instance (priority := low) Put.is {N : List Str} {σ σ' : Sl} {x y : Str} {v : V} {o : Option V} {i : Nat} [h : Put N σ x v σ' i] : Put (y :: N) (o :: σ) x v (o :: σ') (i + 1) := .s h
theorem Put.n {N : List Str} {σ σ' : Sl} {x : Str} {v : V} {i : Nat} (h : Put N σ x v σ' i) : N[i]? = some x := by
  induction h with
  | z => rfl
  | s _ ih => simpa using ih
theorem Put.v {N : List Str} {σ σ' : Sl} {x : Str} {v : V} {i : Nat} (h : Put N σ x v σ' i) : σ.set i (some v) = σ' := by
  induction h with
  | z => rfl
  | s _ ih => simp [ih]
class inductive Ix : List Str → outParam Nat → Str → Prop
  | z {N : List Str} {x : Str} : Ix (x :: N) 0 x
  | s {N : List Str} {x y : Str} {i : Nat} (h : Ix N i x) : Ix (y :: N) (i + 1) x
instance (priority := high) Ix.iz {N : List Str} {x : Str} : Ix (x :: N) 0 x := .z
instance (priority := low) Ix.is {N : List Str} {x y : Str} {i : Nat} [h : Ix N i x] : Ix (y :: N) (i + 1) x := .s h
theorem Ix.n {N : List Str} {i : Nat} {x : Str} (h : Ix N i x) : N[i]? = some x := by
  induction h with
  | z => rfl
  | s _ ih => simpa using ih
/-- what the built-in names hold -/
class BB (x : Str) (u : outParam Value) : Prop where
  h : bootBuiltins x = some u
instance : BB "abs" (.builtin "abs") := ⟨by decide +kernel⟩
instance : BB "len" (.builtin "len") := ⟨by decide +kernel⟩
instance : BB "isinstance" (.builtin "isinstance") := ⟨by decide +kernel⟩
instance : BB "all" (.builtin "all") := ⟨by decide +kernel⟩
instance : BB "any" (.builtin "any") := ⟨by decide +kernel⟩
instance : BB "sum" (.builtin "sum") := ⟨by decide +kernel⟩
instance : BB "sorted" (.builtin "sorted") := ⟨by decide +kernel⟩
instance : BB "max" (.builtin "max") := ⟨by decide +kernel⟩
instance : BB "min" (.builtin "min") := ⟨by decide +kernel⟩
instance : BB "int" (.type "int") := ⟨by decide +kernel⟩
instance : BB "str" (.type "str") := ⟨by decide +kernel⟩
instance : BB "bool" (.type "bool") := ⟨by decide +kernel⟩
instance : BB "list" (.type "list") := ⟨by decide +kernel⟩
instance : BB "tuple" (.type "tuple") := ⟨by decide +kernel⟩
instance : BB "dict" (.type "dict") := ⟨by decide +kernel⟩
instance : BB "set" (.type "set") := ⟨by decide +kernel⟩
/-- a def as its callers see it: no exception leaves it -/
structure Cal (P : Program) (w : World) (K : PySem.W.Frag) (mg : Str → Option Value) (base : Heap) (k : Nat) (x : Str) (sp : Sp) (dvs : List V) : Prop where
  ex : ∃ (f : Addr) (fd : FuncData) (ps : List Str) (ds : List Value), FnOk P w K mg base CX0 k f fd ps sp ∧ mg x = some (.ref f) ∧ PySem.W.keepIn K (.ref f) = true ∧ Binds K fd ps ds ∧ Vals dvs ds
/-- .. errors may leave it -/
structure CalX (P : Program) (w : World) (K : PySem.W.Frag) (mg : Str → Option Value) (base : Heap) (k : Nat) (x : Str) (sp : Sp) (dvs : List V) : Prop where
  ex : ∃ (f : Addr) (fd : FuncData) (ps : List Str) (ds : List Value), FnOk P w K mg base (L2.CX P w) k f fd ps sp ∧ mg x = some (.ref f) ∧ PySem.W.keepIn K (.ref f) = true ∧ Binds K fd ps ds ∧ Vals dvs ds

/-! ### what is wanted -/
section
variable (X : Cx)
def QE (e : Expr) (σ : Sl) (H : Hp) (Q : VK) : Prop := ∀ (pins : List (Addr × Obj)) (s : Shared), Inv X pins σ H s → wpAny (model X.prog X.w) X.A (eval e X.env) (EP X pins σ Q) X.xe s
def QT (e : Expr) (σ : Sl) (H : Hp) (Q : Bool → Hp → Prop) : Prop := ∀ (pins : List (Addr × Obj)) (s : Shared), Inv X pins σ H s → wpAny (model X.prog X.w) X.A (isTrue e X.env (eval e X.env)) (TP X pins σ Q) X.xe s
def QW (e : Expr) (σ : Sl) (H : Hp) (Q : Bool → Hp → Prop) : Prop := ∀ (wh : Sem Value) (pins : List (Addr × Obj)) (s : Shared), Inv X pins σ H s → wpAny (model X.prog X.w) X.A (isTrue e X.env wh) (TP X pins σ Q) X.xe s
def QA (es : List Expr) (σ : Sl) (H : Hp) (Q : List V → Hp → Prop) : Prop := ∀ (pos : Pos) (pins : List (Addr × Obj)) (s : Shared), Inv X pins σ H s → wpAny (model X.prog X.w) X.A (spliced (backTo pos (starEach es X.env))) (AP X pins σ Q) X.xe s
def QS (st : Stmt) (D : Ends) (σ : Sl) (H : Hp) : Prop := ∀ (pins : List (Addr × Obj)) (s : Shared), Inv X pins σ H s → wpAny (model X.prog X.w) X.A (exec st X.env) (SP X pins D) X.xe s
def QB (sts : List Stmt) (D : Ends) (σ : Sl) (H : Hp) : Prop := ∀ (pins : List (Addr × Obj)) (s : Shared), Inv X pins σ H s → wpAny (model X.prog X.w) X.A (execs sts X.env) (SP X pins D) X.xe s
def QG (tg : Expr) (v : V) (σ : Sl) (H : Hp) (Q : Sl → Hp → Prop) : Prop := ∀ (pins : List (Addr × Obj)) (s : Shared) (u : Value), Inv X pins σ H s → RelV v u → wpAny (model X.prog X.w) X.A (assign tg X.env u) (fun _ s' => ∃ σ' H', Inv X pins σ' H' s' ∧ Q σ' H') X.xe s
def QGs (tgs : List Expr) (vs : List V) (σ : Sl) (H : Hp) (Q : Sl → Hp → Prop) : Prop := ∀ (pins : List (Addr × Obj)) (s : Shared) (us : List Value), Inv X pins σ H s → Vals vs us → wpAny (model X.prog X.w) X.A (assignInOrder ((assignEach tgs X.env).map (·.2)) us) (fun _ s' => ∃ σ' H', Inv X pins σ' H' s' ∧ Q σ' H') X.xe s
/-- a two-place operation at two values -/
def OpW (f : Value → Value → Sem Value) (x y : V) (H : Hp) (Q : VK) : Prop := ∀ (pins : List (Addr × Obj)) (s : Shared) (σ : Sl) (v u : Value), Inv X pins σ H s → RelV x v → RelV y u → wpAny (model X.prog X.w) X.A (f v u) (EP X pins σ Q) X.xe s
def UnW (f : Value → Sem Value) (x : V) (H : Hp) (Q : VK) : Prop := ∀ (pins : List (Addr × Obj)) (s : Shared) (σ : Sl) (v : Value), Inv X pins σ H s → RelV x v → wpAny (model X.prog X.w) X.A (f v) (EP X pins σ Q) X.xe s
def CallW (f : Value) (xs : List V) (H : Hp) (Q : VK) : Prop := ∀ (pins : List (Addr × Obj)) (s : Shared) (σ : Sl) (us : List Value), Inv X pins σ H s → Vals xs us → wpAny (model X.prog X.w) X.A (call f us) (EP X pins σ Q) X.xe s
end

section
variable {X : Cx} {e a b c : Expr} {es : List Expr} {σ σ' : Sl} {H : Hp} {Q : VK} {pos p : Pos} {t : TE} {x : Str} {v : V}
theorem pe_sem : PE X e (QE X e) := ⟨fun pins s _ _ _ I h => h pins s I⟩
theorem pt_sem : PT X e (QT X e) := ⟨fun pins s _ _ _ I h => h pins s I⟩
theorem pw_sem : PW X e (QW X e) := ⟨fun wh pins s _ _ _ I h => h wh pins s I⟩
theorem pa_sem : PA X es (QA X es) := ⟨fun pos pins s _ _ _ I h => h pos pins s I⟩
theorem ps_sem {st : Stmt} : PS X st (QS X st) := ⟨fun pins s _ _ _ I h => h pins s I⟩
theorem pss_sem {sts : List Stmt} : PSs X sts (QB X sts) := ⟨fun pins s _ _ _ I h => h pins s I⟩
theorem pg_sem {tg : Expr} : PG X tg (QG X tg) := ⟨fun pins s _ _ _ u _ I r h => h pins s u I r⟩
theorem pgs_sem {tgs : List Expr} : PGs X tgs (QGs X tgs) := ⟨fun pins s _ _ _ us _ I r h => h pins s us I r⟩
theorem op_sem {f : Value → Value → Sem Value} : OpR X f (OpW X f) := fun pins s σ _ _ _ v u _ I rx ry h => h pins s σ v u I rx ry
theorem un_sem {f : Value → Sem Value} : UnR X f (UnW X f) := fun pins s σ _ _ v _ I rx h => h pins s σ v I rx
theorem call_sem {f : Value} : CallR X f (CallW X f) := fun pins s σ _ _ us _ I r h => h pins s σ us I r
theorem we_of (h : PE X e t) (q : t σ H Q) : QE X e σ H Q := fun pins s I => h.run pins s σ H Q I q
theorem wt_of {t : TT} {Q : Bool → Hp → Prop} (h : PT X e t) (q : t σ H Q) : QT X e σ H Q := fun pins s I => h.run pins s σ H Q I q
theorem ww_of {t : TT} {Q : Bool → Hp → Prop} (h : PW X e t) (q : t σ H Q) : QW X e σ H Q := fun wh pins s I => h.run wh pins s σ H Q I q
theorem wa_of {t : TA} {Q : List V → Hp → Prop} (h : PA X es t) (q : t σ H Q) : QA X es σ H Q := fun pos pins s I => h.run pos pins s σ H Q I q
theorem ws_of {st : Stmt} {t : TS} {D : Ends} (h : PS X st t) (q : t D σ H) : QS X st D σ H := fun pins s I => h.run pins s σ H D I q
theorem wss_of {sts : List Stmt} {t : TS} {D : Ends} (h : PSs X sts t) (q : t D σ H) : QB X sts D σ H := fun pins s I => h.run pins s σ H D I q
theorem wg_of {tg : Expr} {t : TG} {Q : Sl → Hp → Prop} (h : PG X tg t) (q : t v σ H Q) : QG X tg v σ H Q := fun pins s u I r => h.run pins s σ H v u Q I r q
theorem wgs_of {tgs : List Expr} {vs : List V} {t : TGs} {Q : Sl → Hp → Prop} (h : PGs X tgs t) (q : t vs σ H Q) : QGs X tgs vs σ H Q := fun pins s us I r => h.run pins s σ H vs us Q I r q
theorem opw_of {f : Value → Value → Sem Value} {r : R2} {y : V} (h : OpR X f r) (q : r v y H Q) : OpW X f v y H Q := fun pins s σ u w I rx ry => h pins s σ H v y u w Q I rx ry q
theorem unw_of {f : Value → Sem Value} {r : V → Hp → VK → Prop} (h : UnR X f r) (q : r v H Q) : UnW X f v H Q := fun pins s σ u I rx => h pins s σ H v u Q I rx q
theorem callw_of {f : Value} {r : List V → Hp → VK → Prop} {xs : List V} (h : CallR X f r) (q : r xs H Q) : CallW X f xs H Q := fun pins s σ us I rx => h pins s σ H xs us Q I rx q
/-! ### mono -/
theorem QE.imp {Q' : VK} (h : QE X e σ H Q) (k : ∀ v H', Q v H' → Q' v H') : QE X e σ H Q' := fun pins s I => thn (h pins s I) fun _ _ ⟨v, H', J, r, q⟩ => ⟨v, H', J, r, k v H' q⟩

/-! ### expressions -/
theorem we_name {N : List Str} {i : Nat} (h : Var N σ x v i) (hN : X.N = N) (hv : Vis X.env.scope x) (q : Q v H) (hd : (x == ("__debug__" : Str)) = false := by decide) (hcd : (x == ("__classdict__" : Str)) = false := by decide) : QE X (.Name x pos) σ H Q :=
  we_of (pe_var (i := i) (hN ▸ h.n) hv hd hcd) ⟨v, h.v, q⟩
theorem we_int {i : Int} {j} (q : Q (.int i) H) : QE X (.Constant (.int i) j pos) σ H Q := we_of pe_int q
theorem we_bl {i : Bool} {j} (q : Q (.bl i) H) : QE X (.Constant (.bool i) j pos) σ H Q := we_of pe_bl q
theorem we_non {j} (q : Q .non H) : QE X (.Constant .none j pos) σ H Q := we_of pe_non q
theorem we_str {z : Str} {j} (q : Q (.str z) H) : QE X (.Constant (.str z) j pos) σ H Q := we_of pe_str q
theorem we_bin {op : Operator} (q : QE X a σ H fun x H1 => QE X b σ H1 fun y H2 => OpW X (binaryOp op) x y H2 Q) : QE X (.BinOp a op b pos) σ H Q := we_of (pe_op op_sem pe_sem pe_sem) q
theorem we_un {op : UnaryOp} (q : QE X a σ H fun x H1 => UnW X (unaryOp op) x H1 Q) : QE X (.UnaryOp op a pos) σ H Q := we_of (pe_un un_sem pe_sem) q
theorem we_not (q : QE X a σ H fun x H1 => ∃ c, x = .bl c ∧ Q (.bl (!c)) H1) : QE X (.UnaryOp .Not a pos) σ H Q := we_of (pe_not pe_sem) q
theorem we_cmp {op : CmpOp} (hm : behindInMarks op b = false) (q : QE X a σ H fun x H1 => QE X b σ H1 fun y H2 => OpW X (compareOp op) x y H2 Q) : QE X (.Compare a [op] [b] pos) σ H Q := we_of (pe_cmpR op_sem pe_sem pe_sem hm) q
theorem we_chain {op op' : CmpOp} (hm : lastMarks [op, op'] [b, c] = false)
    (q : QE X a σ H fun x H1 => QE X b σ H1 fun y H2 => OpW X (compareOp op) x y H2 fun z H3 => ∃ k, z = .bl k ∧ (if k = true then QE X c σ H3 fun w H4 => OpW X (compareOp op') y w H4 Q else Q (.bl false) H3)) :
    QE X (.Compare a [op, op'] [b, c] pos) σ H Q := we_of (pe_chain op_sem op_sem pe_sem pe_sem pe_sem hm) q
theorem we_and {rest : List Expr} (q : QE X a σ H fun x H1 => ∃ c, x = .bl c ∧ if c = true then QE X (.BoolOp .And (b :: rest) pos) σ H1 Q else Q (.bl false) H1) : QE X (.BoolOp .And (a :: b :: rest) pos) σ H Q := we_of (pe_and pe_sem pe_sem) q
theorem we_or {rest : List Expr} (q : QE X a σ H fun x H1 => ∃ c, x = .bl c ∧ if c = true then Q (.bl true) H1 else QE X (.BoolOp .Or (b :: rest) pos) σ H1 Q) : QE X (.BoolOp .Or (a :: b :: rest) pos) σ H Q := we_of (pe_or pe_sem pe_sem) q
theorem we_one {op : BoolOp} (q : QE X a σ H Q) : QE X (.BoolOp op [a] pos) σ H Q := we_of (pe_one pe_sem) q
theorem we_ifx (q : QT X c σ H fun k H1 => if k = true then QE X a σ H1 Q else QE X b σ H1 Q) : QE X (.IfExp c a b pos) σ H Q := we_of (pe_ifExp pt_sem pe_sem pe_sem) q
theorem same_new {H : Hp} {q : Addr} {o : HO} (h : H q = none) : Same H (upd H q o) := fun b u e => by rw [upd_ne (ne_of_none e h)]; exact e
theorem we_tup {k : Nat} (q : QA X es σ H fun xs H1 => xs.length ≤ sizeLine ∧ ∀ p H2, H1 p = none → Same H1 H2 → H2 p = some (.tup xs) → Q (.ref p) H2) : QE X (.Tuple es k pos) σ H Q :=
  we_of (pe_tup pa_sem) (fun pos pins s I => thn (q pos pins s I) fun us s' ⟨vs, H', J, r, hl, z⟩ => ⟨vs, H', J, r, hl, fun p hp => z p _ hp (same_new hp) upd_same⟩)
theorem we_lst (q : QA X es σ H fun xs H1 => xs.length ≤ sizeLine ∧ ∀ p H2, H1 p = none → Same H1 H2 → H2 p = some (.lst xs) → Q (.ref p) H2) : QE X (.List es pos) σ H Q :=
  we_of (pe_lst pa_sem) (fun pos pins s I => thn (q pos pins s I) fun us s' ⟨vs, H', J, r, hl, z⟩ => ⟨vs, H', J, r, hl, fun p hp => z p _ hp (same_new hp) upd_same⟩)
theorem wa_nil {Q : List V → Hp → Prop} (q : Q [] H) : QA X [] σ H Q := wa_of pa_nil q
theorem wa_cons {Q : List V → Hp → Prop} (hs : starEach (e :: es) X.env = (false, eval e X.env) :: starEach es X.env) (q : QE X e σ H fun x H1 => QA X es σ H1 fun xs H2 => Q (x :: xs) H2) : QA X (e :: es) σ H Q := wa_of (pa_cons pe_sem pa_sem hs) q
theorem we_call {j k : Nat} {sp : Sp} {dvs : List V} (c : Cal X.prog X.w X.K X.mg X.base k x sp dvs) (hr : Room j X.A) (hk : k ≤ j) (hg : Gl X x)
    (q : QA X (e :: es) σ H fun vs H1 => sp (vs ++ dvs) H1 Q L2.E0)
    (hdb : (x == ("__debug__" : Str)) = false := by decide) (he : starEach (e :: es) X.env = (false, eval e X.env) :: starEach es X.env := by rfl) (hpl : (backTo pos (starEach es X.env)).any (·.1) = false := by rfl) :
    QE X (.Call (.Name x p) (e :: es) [] pos) σ H Q := by
  obtain ⟨f, fd, ps, ds, F, hm, kp, b, d⟩ := c.ex
  exact we_of (pe_call F (hr.mono hk) hg hm kp b d pass0 pa_sem hdb he hpl) q
theorem we_bltn {id : String} (hm : X.mg x = none) (hg : Gl X x) (hv : BB x (.builtin id)) (q : QA X (e :: es) σ H fun vs H1 => CallW X (.builtin id) vs H1 Q) (hn : x ≠ "__name__" := by decide) (hdb : (x == ("__debug__" : Str)) = false := by decide)
    (he : starEach (e :: es) X.env = (false, eval e X.env) :: starEach es X.env := by rfl) (hpl : (backTo pos (starEach es X.env)).any (·.1) = false := by rfl) : QE X (.Call (.Name x p) (e :: es) [] pos) σ H Q :=
  we_of (pe_callB call_sem hg hm hv.h pa_sem hn hdb he hpl) q
theorem we_type {T : String} (hm : X.mg x = none) (hg : Gl X x) (hv : BB x (.type T)) (q : QA X (e :: es) σ H fun vs H1 => CallW X (.type T) vs H1 Q) (hn : x ≠ "__name__" := by decide) (hdb : (x == ("__debug__" : Str)) = false := by decide)
    (he : starEach (e :: es) X.env = (false, eval e X.env) :: starEach es X.env := by rfl) (hpl : (backTo pos (starEach es X.env)).any (·.1) = false := by rfl) : QE X (.Call (.Name x p) (e :: es) [] pos) σ H Q :=
  we_of (pe_callTy call_sem hg hm hv.h pa_sem hn hdb he hpl) q
/-- a built-in's name as a value (isinstance's second argument) -/
theorem we_bval {u : Value} {v : V} (hm : X.mg x = none) (hg : Gl X x) (hv : BB x u) (r : RelV v u) (q : Q v H) (hn : x ≠ "__name__" := by decide) (hdb : (x == ("__debug__" : Str)) = false := by decide) : QE X (.Name x pos) σ H Q :=
  we_of (pe_bltn hg hm hv.h r hn hdb) q
theorem we_tyval {T : String} (hm : X.mg x = none) (hg : Gl X x) (hv : BB x (.type T)) (q : Q (.ty T) H) (hn : x ≠ "__name__" := by decide) (hdb : (x == ("__debug__" : Str)) = false := by decide) : QE X (.Name x pos) σ H Q :=
  we_of (pe_bltn hg hm hv.h (v := .ty T) rfl hn hdb) q
theorem we_gval {u : Value} {v : V} (hm : X.mg x = some u) (hg : Gl X x) (r : RelV v u) (q : Q v H) (hdb : (x == ("__debug__" : Str)) = false := by decide) : QE X (.Name x pos) σ H Q :=
  we_of (C8.pe_gc hg ⟨u, hm, r⟩ hdb) q

/-! ### tests -/
theorem wt_cmp {op : CmpOp} {Q : Bool → Hp → Prop} (hm : behindInMarks op b = false) (q : QE X a σ H fun x H1 => QE X b σ H1 fun y H2 => OpW X (compareOp op) x y H2 fun z H3 => ∃ k, z = .bl k ∧ Q k H3) : QT X (.Compare a [op] [b] pos) σ H Q := wt_of (pt_cmpR op_sem pe_sem pe_sem hm) q
theorem wt_chain {op op' : CmpOp} {Q : Bool → Hp → Prop} (hm : lastMarks [op, op'] [b, c] = false)
    (q : QE X a σ H fun x H1 => QE X b σ H1 fun y H2 => OpW X (compareOp op) x y H2 fun z H3 => ∃ k, z = .bl k ∧ (if k = true then QE X c σ H3 fun w H4 => OpW X (compareOp op') y w H4 fun z H5 => ∃ k, z = .bl k ∧ Q k H5 else ∃ k, V.bl false = .bl k ∧ Q k H3)) :
    QT X (.Compare a [op, op'] [b, c] pos) σ H Q := wt_of (pt_chain op_sem op_sem pe_sem pe_sem pe_sem hm) q
theorem wt_not {Q : Bool → Hp → Prop} (q : QT X a σ H fun k H1 => Q (!k) H1) : QT X (.UnaryOp .Not a pos) σ H Q := wt_of (pt_not pt_sem) q
theorem wt_boolop {op : BoolOp} {Q : Bool → Hp → Prop} (q : QW X (.BoolOp op es pos) σ H Q) : QT X (.BoolOp op es pos) σ H Q := wt_of pw_sem.pt q
theorem ww_and {rest : List Expr} {Q : Bool → Hp → Prop} (q : QT X a σ H fun k H1 => if k = true then QW X (.BoolOp .And (b :: rest) pos) σ H1 Q else Q false H1) : QW X (.BoolOp .And (a :: b :: rest) pos) σ H Q := ww_of (pw_and pt_sem pw_sem) q
theorem ww_or {rest : List Expr} {Q : Bool → Hp → Prop} (q : QT X a σ H fun k H1 => if k = true then Q true H1 else QW X (.BoolOp .Or (b :: rest) pos) σ H1 Q) : QW X (.BoolOp .Or (a :: b :: rest) pos) σ H Q := ww_of (pw_or pt_sem pw_sem) q
theorem ww_and1 {Q : Bool → Hp → Prop} (q : QT X a σ H Q) : QW X (.BoolOp .And [a] pos) σ H Q := ww_of (pw_and1 pt_sem) q
theorem ww_or1 {Q : Bool → Hp → Prop} (q : QT X a σ H Q) : QW X (.BoolOp .Or [a] pos) σ H Q := ww_of (pw_or1 pt_sem) q
theorem wt_val {Q : Bool → Hp → Prop} (he : ∀ whole, isTrue e X.env whole = (do let v ← whole; standAt e.pos; holding [v] (truthy v))) (q : QE X e σ H fun x H1 => ∃ k, x = .bl k ∧ Q k H1) : QT X e σ H Q := wt_of (pt_val pe_sem he) q

/-! ### operations at values -/
theorem opw_add {i j : Int} (q : Q (.int (i + j)) H) : OpW X (binaryOp .Add) (.int i) (.int j) H Q := opw_of op_add ⟨i, j, rfl, rfl, q⟩
theorem opw_sub {i j : Int} (q : Q (.int (i - j)) H) : OpW X (binaryOp .Sub) (.int i) (.int j) H Q := opw_of op_sub ⟨i, j, rfl, rfl, q⟩
theorem opw_mul {i j : Int} (hc : CMul i j) (q : Q (.int (i * j)) H) : OpW X (binaryOp .Mult) (.int i) (.int j) H Q := opw_of op_mul ⟨i, j, rfl, rfl, hc, q⟩
theorem opw_div {i j : Int} (hc : CDiv i j) (q : Q (.int (i / j)) H) : OpW X (binaryOp .FloorDiv) (.int i) (.int j) H Q := opw_of op_fdiv ⟨i, j, rfl, rfl, hc, q⟩
theorem opw_divN {i j : Int} (hc : CDivN i j) (q : Q (.int (i.fdiv j)) H) : OpW X (binaryOp .FloorDiv) (.int i) (.int j) H Q := opw_of op_fdivN ⟨i, j, rfl, rfl, hc, q⟩
theorem opw_mod {i j : Int} (hc : 0 < j) (q : Q (.int (i % j)) H) : OpW X (binaryOp .Mod) (.int i) (.int j) H Q := opw_of op_mod ⟨i, j, rfl, rfl, hc, q⟩
theorem opw_modN {i j : Int} (hc : j ≠ 0) (q : Q (.int (i.fmod j)) H) : OpW X (binaryOp .Mod) (.int i) (.int j) H Q := opw_of op_modN ⟨i, j, rfl, rfl, hc, q⟩
theorem unw_neg {i : Int} (q : Q (.int (-i)) H) : UnW X (unaryOp .USub) (.int i) H Q := unw_of un_neg ⟨i, rfl, q⟩
theorem opw_lt {i j : Int} (q : Q (.bl (decide (i < j))) H) : OpW X (compareOp .Lt) (.int i) (.int j) H Q := opw_of op_lt ⟨i, j, rfl, rfl, q⟩
theorem opw_le {i j : Int} (q : Q (.bl (decide (i ≤ j))) H) : OpW X (compareOp .LtE) (.int i) (.int j) H Q := opw_of op_le ⟨i, j, rfl, rfl, q⟩
theorem opw_gt {i j : Int} (q : Q (.bl (decide (j < i))) H) : OpW X (compareOp .Gt) (.int i) (.int j) H Q := opw_of op_gt ⟨i, j, rfl, rfl, q⟩
theorem opw_ge {i j : Int} (q : Q (.bl (decide (j ≤ i))) H) : OpW X (compareOp .GtE) (.int i) (.int j) H Q := opw_of op_ge ⟨i, j, rfl, rfl, q⟩
theorem opw_eq {i j : Int} (q : Q (.bl (decide (i = j))) H) : OpW X (compareOp .Eq) (.int i) (.int j) H Q := opw_of op_eq ⟨rfl, by rw [show decide (V.int i = V.int j) = decide (i = j) from by simp]; exact q⟩
theorem opw_ne {i j : Int} (q : Q (.bl (!decide (i = j))) H) : OpW X (compareOp .NotEq) (.int i) (.int j) H Q := opw_of op_ne ⟨rfl, by rw [show decide (V.int i = V.int j) = decide (i = j) from by simp]; exact q⟩
theorem opw_eqb {i j : Bool} (q : Q (.bl (decide (i = j))) H) : OpW X (compareOp .Eq) (.bl i) (.bl j) H Q := opw_of op_eq ⟨rfl, by rw [show decide (V.bl i = V.bl j) = decide (i = j) from by simp]; exact q⟩
theorem opw_neb {i j : Bool} (q : Q (.bl (!decide (i = j))) H) : OpW X (compareOp .NotEq) (.bl i) (.bl j) H Q := opw_of op_ne ⟨rfl, by rw [show decide (V.bl i = V.bl j) = decide (i = j) from by simp]; exact q⟩
theorem opw_eqs {i j : Str} (q : Q (.bl (decide (i = j))) H) : OpW X (compareOp .Eq) (.str i) (.str j) H Q := opw_of op_eq ⟨rfl, by rw [show decide (V.str i = V.str j) = decide (i = j) from by simp]; exact q⟩
theorem opw_nes {i j : Str} (q : Q (.bl (!decide (i = j))) H) : OpW X (compareOp .NotEq) (.str i) (.str j) H Q := opw_of op_ne ⟨rfl, by rw [show decide (V.str i = V.str j) = decide (i = j) from by simp]; exact q⟩
theorem callw_abs {i : Int} (q : Q (.int (if i < 0 then -i else i)) H) : CallW X (.builtin "abs") [.int i] H Q := callw_of call_abs ⟨i, rfl, q⟩
theorem callw_int {i : Int} (q : Q (.int i) H) : CallW X (.type "int") [.int i] H Q := callw_of call_int1 (.inl ⟨i, rfl, q⟩)
theorem callw_intb {k : Bool} (q : Q (.int (if k then 1 else 0)) H) : CallW X (.type "int") [.bl k] H Q := callw_of call_int1 (.inr ⟨k, rfl, q⟩)
end

/-! ### statements -/
section
variable {X : Cx} {e c : Expr} {st : Stmt} {sts rest body orelse : List Stmt} {σ σ' : Sl} {H : Hp} {D : Ends} {pos p : Pos} {x : Str} {v : V}
theorem wss_nil (q : D.nx σ H) : QB X [] D σ H := wss_of pss_nil q
theorem wss_cons (q : QS X st { D with nx := fun σ' H' => QB X rest D σ' H' } σ H) : QB X (st :: rest) D σ H := wss_of (pss_cons ps_sem pss_sem) q
theorem wss_one (q : QS X st D σ H) : QB X [st] D σ H := wss_of (pss_one ps_sem) q
theorem ws_ret (q : QE X e σ H D.rt) : QS X (.Return (some e) pos) D σ H := ws_of (ps_ret pe_sem) q
theorem ws_retN (q : D.rt .non H) : QS X (.Return none pos) D σ H := ws_of ps_retN q
theorem ws_if (q : QT X c σ H fun k H1 => if k = true then QB X body D σ H1 else QB X orelse D σ H1) : QS X (.If c body orelse pos) D σ H := ws_of (ps_if pt_sem pss_sem pss_sem) q
theorem ws_expr (hs : swapsWith e none pos.line X.env = pure false) (q : QE X e σ H fun _ H1 => D.nx σ H1) : QS X (.Expr e pos) D σ H := ws_of (ps_expr pe_sem hs) q
theorem wg_name {N : List Str} {i : Nat} {Q : Sl → Hp → Prop} (h : Put N σ x v σ' i) (hN : X.N = N) (nd : X.N.Nodup) (hx : Loc X.env.scope x) (hf : X.fn x = true ∨ X.env.scope.names.lookup x = some .local) (q : Q σ' H) : QG X (.Name x pos) v σ H Q :=
  wg_of (pg_name (i := i) nd (hN ▸ h.n) hx hf) (by show Q (σ.set i (some v)) H; rw [h.v]; exact q)
theorem wgs_nil {Q : Sl → Hp → Prop} (q : Q σ H) : QGs X [] [] σ H Q := wgs_of pgs_nil ⟨rfl, q⟩
theorem wgs_cons {es : List Expr} {vs : List V} {Q : Sl → Hp → Prop} (hs : (assignEach (e :: es) X.env).map (·.2) = assign e X.env :: (assignEach es X.env).map (·.2)) (q : QG X e v σ H fun σ' H' => QGs X es vs σ' H' Q) : QGs X (e :: es) (v :: vs) σ H Q :=
  wgs_of (pgs_cons pg_sem pgs_sem hs) ⟨v, vs, rfl, q⟩
theorem wg_tup {es : List Expr} {k : Nat} {a : Addr} {xs : List V} {Q : Sl → Hp → Prop} (hc : X.calm = true) (ht : SqT X.K H a xs) (hl : xs.length = (assignEach es X.env).length) (hst : (assignEach es X.env).findIdx? (·.1) = none) (q : QGs X es xs σ H Q) : QG X (.Tuple es k pos) (.ref a) σ H Q :=
  wg_of (pg_tup hc pgs_sem rfl hst) ⟨a, xs, rfl, ht, hl, q⟩
theorem ws_asg {tg : Expr} (hs : swapsWithSole [tg] e pos.line X.env = pure false) (hw : swappedStores [tg] e X.env = pure none) (h1 : (assignEach [tg] X.env).map (·.2) = [assign tg X.env]) (q : QE X e σ H fun v H1 => QG X tg v σ H1 D.nx) : QS X (.Assign [tg] e pos) D σ H :=
  ws_of (ps_asg pe_sem pg_sem hs hw h1) q
theorem ws_set (hs : swapsWith e (some (.Name x p)) pos.line X.env = pure false) (nd : X.N.Nodup) (hx : Loc X.env.scope x) (hf : X.fn x = true ∨ X.env.scope.names.lookup x = some .local) {N : List Str} (hN : X.N = N) {i : Nat} (hi : N[i]? = some x)
    (q : QE X e σ H fun v H1 => D.nx (σ.set i (some v)) H1) : QS X (.Assign [.Name x p] e pos) D σ H :=
  ws_of (ps_set (i := i) nd (hN ▸ hi) hx pe_sem hs hf) q
theorem ws_par {y : Str} {a b : Expr} {px py pt : Pos} {kt k2 pt2} {N : List Str} {i j : Nat} (hN : X.N = N) (hi : Ix N i x) (hj : Ix N j y) (hij : i ≠ j) (hc : X.calm = true) (nd : X.N.Nodup)
    (hx : X.env.scope.names.lookup x = some .local) (hy : X.env.scope.names.lookup y = some .local)
    (hw : swappedStores [.Tuple [.Name x px, .Name y py] kt pt] (.Tuple [a, b] k2 pt2) X.env = pure (some [x, y]))
    (hs : swapsWithSole [.Tuple [.Name x px, .Name y py] kt pt] (.Tuple [a, b] k2 pt2) pos.line X.env = pure false)
    (q : QA X [a, b] σ H fun vs H1 => ∃ v w, vs = [v, w] ∧ ∃ σ1 σ2, Put N σ x v σ1 i ∧ Put N σ1 y w σ2 j ∧ D.nx σ2 H1) : QS X (.Assign [.Tuple [.Name x px, .Name y py] kt pt] (.Tuple [a, b] k2 pt2) pos) D σ H :=
  ws_of (ps_par hc nd (hN ▸ hi.n) (hN ▸ hj.n) hij hx hy pa_sem hw hs) (fun pos pins s I => thn (q pos pins s I) fun us s' ⟨vs, H', J, r, v, w, e, σ1, σ2, p1, p2, z⟩ => ⟨vs, H', J, r, v, w, e, by rw [p1.v, p2.v]; exact z⟩)
theorem ws_par3 {y z : Str} {a b c : Expr} {px py pz pt : Pos} {kt k2 pt2} {N : List Str} {i j l : Nat} (hN : X.N = N) (hi : Ix N i x) (hj : Ix N j y) (hl : Ix N l z) (hij : i ≠ j) (hil : i ≠ l) (hjl : j ≠ l) (hc : X.calm = true) (nd : X.N.Nodup)
    (hx : X.env.scope.names.lookup x = some .local) (hy : X.env.scope.names.lookup y = some .local) (hz : X.env.scope.names.lookup z = some .local)
    (hw : swappedStores [.Tuple [.Name x px, .Name y py, .Name z pz] kt pt] (.Tuple [a, b, c] k2 pt2) X.env = pure (some [x, y, z]))
    (hs : swapsWithSole [.Tuple [.Name x px, .Name y py, .Name z pz] kt pt] (.Tuple [a, b, c] k2 pt2) pos.line X.env = pure false)
    (q : QA X [a, b, c] σ H fun vs H1 => ∃ u v w, vs = [u, v, w] ∧ ∃ σ1 σ2 σ3, Put N σ x u σ1 i ∧ Put N σ1 y v σ2 j ∧ Put N σ2 z w σ3 l ∧ D.nx σ3 H1) : QS X (.Assign [.Tuple [.Name x px, .Name y py, .Name z pz] kt pt] (.Tuple [a, b, c] k2 pt2) pos) D σ H :=
  ws_of (ps_par3 hc nd (hN ▸ hi.n) (hN ▸ hj.n) (hN ▸ hl.n) hij hil hjl hx hy hz pa_sem hw hs) (fun pos pins s I => thn (q pos pins s I) fun us s' ⟨vs, H', J, r, u, v, w, e, σ1, σ2, σ3, p1, p2, p3, zz⟩ => ⟨vs, H', J, r, u, v, w, e, by rw [p1.v, p2.v, p3.v]; exact zz⟩)
theorem ifd {c A B : Prop} [Decidable c] (h1 : c → A) (h2 : ¬ c → B) : if decide c = true then A else B := by
  by_cases h : c
  · rw [if_pos (decide_eq_true h)]
    exact h1 h
  · rw [if_neg (by simpa using h)]
    exact h2 h
theorem ifn {c A B : Prop} [Decidable c] (h1 : ¬ c → A) (h2 : c → B) : if (!decide c) = true then A else B := by
  by_cases h : c
  · rw [if_neg (by simpa using h)]
    exact h2 h
  · rw [if_pos (by simpa using h)]
    exact h1 h
theorem ifb {b : Bool} {A B : Prop} (h1 : b = true → A) (h2 : b = false → B) : if b = true then A else B := by
  cases b with
  | true => exact h1 rfl
  | false => rw [if_neg Bool.false_ne_true]; exact h2 rfl
theorem ifnb {b : Bool} {A B : Prop} (h1 : b = false → A) (h2 : b = true → B) : if (!b) = true then A else B := by
  cases b with
  | false => exact h1 rfl
  | true => rw [if_neg (by decide)]; exact h2 rfl
/-- while, by an invariant and a measure -/
theorem ws_while (I : Sl → Hp → Prop) (μ : Sl → Hp → Nat) (hp : PassesOwn (model X.prog X.w) X.A X.env X.xe) (h0 : I σ H)
    (h : ∀ σ1 H1, I σ1 H1 → QT X c σ1 H1 fun k H2 => if k = true then QB X body { D with nx := fun σ3 H3 => I σ3 H3 ∧ μ σ3 H3 < μ σ1 H1, ct := fun σ3 H3 => I σ3 H3 ∧ μ σ3 H3 < μ σ1 H1, bk := D.nx } σ1 H2 else D.nx σ1 H2) : QS X (.While c body [] pos) D σ H := by
  refine ws_of (ps_while hp pt_sem pss_sem) ⟨fun m σ1 H1 => I σ1 H1 ∧ μ σ1 H1 = m, ⟨_, h0, rfl⟩, fun m σ1 H1 hm => ?_⟩
  obtain ⟨i1, rfl⟩ := hm
  intro pins s J
  refine thn (h σ1 H1 i1 pins s J) fun k s2 ⟨H2, J2, q2⟩ => ⟨H2, J2, ?_⟩
  cases k with
  | true =>
    rw [if_pos rfl] at q2 ⊢
    exact ⟨fun σ3 H3 => I σ3 H3 ∧ μ σ3 H3 < μ σ1 H1, fun σ3 H3 q => ⟨_, q.2, q.1, rfl⟩, q2⟩
  | false =>
    rw [if_neg Bool.false_ne_true] at q2 ⊢
    exact q2
end
end Sx

/-! Sd: data as a whole, and what stands for it. -/
namespace Sx
open PySem PySem.Spec PyProof.Rows L2

inductive D where
  | non | bl (b : Bool) | int (i : Int) | str (x : Str) | tup (ds : List D) | lst (ds : List D) | obj (c : Addr) (ns : List Str) (ds : List D)

mutual
/-- no list inside -/
def D.im : D → Bool
  | .lst _ => false
  | .tup ds => imAll ds
  | .obj _ _ ds => imAll ds
  | _ => true
def imAll : List D → Bool
  | [] => true
  | d :: r => d.im && imAll r
end
mutual
inductive Rp (K : PySem.W.Frag) (H : Hp) : V → D → Prop
  | non : Rp K H .non .non
  | bl (b : Bool) : Rp K H (.bl b) (.bl b)
  | int (i : Int) : Rp K H (.int i) (.int i)
  | str (x : Str) : Rp K H (.str x) (.str x)
  | tup {a : Addr} {xs : List V} {ds : List D} : SqT K H a xs → RpAll K H xs ds → Rp K H (.ref a) (.tup ds)
  | lst {a : Addr} {xs : List V} {ds : List D} : SqL K H a xs → RpAll K H xs ds → Rp K H (.ref a) (.lst ds)
  | obj {a c dx : Addr} {fs : List (Str × V)} {ns : List Str} {ds : List D} : H a = some (.ins c dx fs) → fs.map (·.1) = ns → RpAll K H (fs.map (·.2)) ds → Rp K H (.ref a) (.obj c ns ds)
inductive RpAll (K : PySem.W.Frag) (H : Hp) : List V → List D → Prop
  | nil : RpAll K H [] []
  | cons {v : V} {vs : List V} {d : D} {ds : List D} : Rp K H v d → RpAll K H vs ds → RpAll K H (v :: vs) (d :: ds)
end
section
variable {K : PySem.W.Frag} {H H' : Hp}
theorem Same.tupR {a : Addr} {xs : List V} (e : Same H H') (h : SqT K H a xs) : SqT K H' a xs := by
  rcases h with (h | ⟨o, h⟩) | h
  · exact .inl (.inl (e _ _ h))
  · exact .inl (.inr ⟨o, e _ _ h⟩)
  · exact .inr h
mutual
theorem Rp.mono (s : Same H H') : ∀ (d : D) (v : V), Rp K H v d → Rp K H' v d
  | .non, _, h => by cases h; exact .non
  | .bl _, _, h => by cases h; exact .bl _
  | .int _, _, h => by cases h; exact .int _
  | .str _, _, h => by cases h; exact .str _
  | .tup ds, _, h => by
    cases h with
    | tup h1 h2 => exact .tup (Same.tupR s h1) (RpAll.mono s ds _ h2)
  | .lst ds, _, h => by
    cases h with
    | lst h1 h2 => exact .lst (s.seq h1) (RpAll.mono s ds _ h2)
  | .obj c ns ds, _, h => by
    cases h with
    | obj h1 h2 h3 => exact .obj (s _ _ h1) h2 (RpAll.mono s ds _ h3)
theorem RpAll.mono (s : Same H H') : ∀ (ds : List D) (vs : List V), RpAll K H vs ds → RpAll K H' vs ds
  | [], _, h => by cases h; exact .nil
  | d :: ds, _, h => by
    cases h with
    | cons h1 h2 => exact .cons (Rp.mono s d _ h1) (RpAll.mono s ds _ h2)
end
theorem Rp.to {d : D} {v : V} (h : Rp K H v d) (s : Same H H') : Rp K H' v d := Rp.mono s d v h
theorem RpAll.to {ds : List D} {vs : List V} (h : RpAll K H vs ds) (s : Same H H') : RpAll K H' vs ds := RpAll.mono s ds vs h
/-- a list is written: what holds no list stands -/
def Lst (H : Hp) (p : Addr) : Prop := ∃ xs, H p = some (.lst xs)
mutual
theorem Rp.keep {p : Addr} (l : Lst H p) (s : ∀ b o, b ≠ p → H b = some o → H' b = some o) : ∀ (d : D) (v : V), d.im = true → Rp K H v d → Rp K H' v d
  | .non, _, _, h => by cases h; exact .non
  | .bl _, _, _, h => by cases h; exact .bl _
  | .int _, _, _, h => by cases h; exact .int _
  | .str _, _, _, h => by cases h; exact .str _
  | .tup ds, _, m, h => by
    obtain ⟨zs, hz⟩ := l
    cases h with
    | tup h1 h2 =>
      refine .tup ?_ (RpAll.keep ⟨zs, hz⟩ s ds _ (by simpa [D.im] using m) h2)
      rcases h1 with (h1 | ⟨o, h1⟩) | h1
      · exact .inl (.inl (s _ _ (ne_of h1 hz (by intro z; cases z)) h1))
      · exact .inl (.inr ⟨o, s _ _ (ne_of h1 hz (by intro z; cases z)) h1⟩)
      · exact .inr h1
  | .lst _, _, m, _ => by simp [D.im] at m
  | .obj c ns ds, _, m, h => by
    obtain ⟨zs, hz⟩ := l
    cases h with
    | obj h1 h2 h3 => exact .obj (s _ _ (ne_of h1 hz (by intro z; cases z)) h1) h2 (RpAll.keep ⟨zs, hz⟩ s ds _ (by simpa [D.im] using m) h3)
theorem RpAll.keep {p : Addr} (l : Lst H p) (s : ∀ b o, b ≠ p → H b = some o → H' b = some o) : ∀ (ds : List D) (vs : List V), imAll ds = true → RpAll K H vs ds → RpAll K H' vs ds
  | [], _, _, h => by cases h; exact .nil
  | d :: ds, _, m, h => by
    have m' : d.im = true ∧ imAll ds = true := by simpa [imAll] using m
    cases h with
    | cons h1 h2 => exact .cons (Rp.keep l s d _ m'.1 h1) (RpAll.keep l s ds _ m'.2 h2)
end
theorem RpAll.len : ∀ {vs : List V} {ds : List D}, RpAll K H vs ds → vs.length = ds.length
  | _, _, .nil => rfl
  | _, _, .cons _ t => by simp [RpAll.len t]
theorem RpAll.get : ∀ {vs : List V} {ds : List D} {i : Nat} {v : V}, RpAll K H vs ds → vs[i]? = some v → ∃ d, ds[i]? = some d ∧ Rp K H v d
  | _, _, _, _, .nil, e => by simp at e
  | _, _, 0, _, .cons r _, e => by simp at e; subst e; exact ⟨_, rfl, r⟩
  | _, _, i + 1, v, .cons _ t, e => by
    obtain ⟨d, h1, h2⟩ := RpAll.get (i := i) (v := v) t (by simpa using e)
    exact ⟨d, by simpa using h1, h2⟩
theorem RpAll.getD' : ∀ {vs : List V} {ds : List D} {i : Nat} {d : D}, RpAll K H vs ds → ds[i]? = some d → ∃ v, vs[i]? = some v ∧ Rp K H v d
  | _, _, _, _, .nil, e => by simp at e
  | _, _, 0, _, .cons r _, e => by simp at e; subst e; exact ⟨_, rfl, r⟩
  | _, _, i + 1, v, .cons _ t, e => by
    obtain ⟨d, h1, h2⟩ := RpAll.getD' (i := i) (d := v) t (by simpa using e)
    exact ⟨d, by simpa using h1, h2⟩
theorem RpAll.snoc : ∀ {vs : List V} {ds : List D} {v : V} {d : D}, RpAll K H vs ds → Rp K H v d → RpAll K H (vs ++ [v]) (ds ++ [d])
  | _, _, _, _, .nil, h => .cons h .nil
  | _, _, _, _, .cons r t, h => .cons r (RpAll.snoc t h)
theorem RpAll.app : ∀ {vs ws : List V} {ds es : List D}, RpAll K H vs ds → RpAll K H ws es → RpAll K H (vs ++ ws) (ds ++ es)
  | _, _, _, _, .nil, h => h
  | _, _, _, _, .cons r t, h => .cons r (RpAll.app t h)
theorem imAll_iff : ∀ {ds : List D}, imAll ds = true ↔ ∀ d ∈ ds, d.im = true
  | [] => by simp [imAll]
  | d :: r => by simp [imAll, imAll_iff (ds := r)]
theorem RpAll.ints : ∀ (ns : List Int), RpAll K H (ns.map V.int) (ns.map D.int)
  | [] => .nil
  | n :: r => .cons (.int n) (RpAll.ints r)
theorem RpAll.ints_inv : ∀ {ns : List Int} {vs : List V}, RpAll K H vs (ns.map D.int) → vs = ns.map V.int
  | [], _, h => by cases h; rfl
  | n :: r, _, h => by
    cases h with
    | cons h1 h2 => cases h1; rw [RpAll.ints_inv h2]; rfl
theorem RpAll.bls_inv : ∀ {ns : List Bool} {vs : List V}, RpAll K H vs (ns.map D.bl) → vs = ns.map V.bl
  | [], _, h => by cases h; rfl
  | n :: r, _, h => by
    cases h with
    | cons h1 h2 => cases h1; rw [RpAll.bls_inv h2]; rfl
theorem RpAll.strs_inv : ∀ {ns : List Str} {vs : List V}, RpAll K H vs (ns.map D.str) → vs = ns.map V.str
  | [], _, h => by cases h; rfl
  | n :: r, _, h => by
    cases h with
    | cons h1 h2 => cases h1; rw [RpAll.strs_inv h2]; rfl
mutual
/-- .. as the library's data, where no object is inside -/
def D.py : D → Option PyData
  | .non => some .none
  | .bl b => some (.bool b)
  | .int i => some (.int i)
  | .str x => some (.str x)
  | .tup ds => (pyAll ds).map .tuple
  | .lst ds => (pyAll ds).map .list
  | .obj _ _ _ => none
def pyAll : List D → Option (List PyData)
  | [] => some []
  | d :: r => match d.py, pyAll r with
    | some x, some xs => some (x :: xs)
    | _, _ => none
end
mutual
theorem Rp.py : ∀ (d : D) (v : V) (e : PyData), Rp K H v d → d.py = some e → Dp K H v e
  | .non, _, _, h, q => by cases h; cases q; exact .non
  | .bl _, _, _, h, q => by cases h; cases q; exact .bl _
  | .int _, _, _, h, q => by cases h; cases q; exact .int _
  | .str _, _, _, h, q => by cases h; cases q; exact .str _
  | .tup ds, _, _, h, q => by
    cases h with
    | tup h1 h2 =>
      unfold D.py at q
      cases w : pyAll ds with
      | none => rw [w] at q; cases q
      | some xs => rw [w] at q; cases q; exact .tup h1 (RpAll.py ds _ xs h2 w)
  | .lst ds, _, _, h, q => by
    cases h with
    | lst h1 h2 =>
      unfold D.py at q
      cases w : pyAll ds with
      | none => rw [w] at q; cases q
      | some xs => rw [w] at q; cases q; exact .lst h1 (RpAll.py ds _ xs h2 w)
  | .obj _ _ _, _, _, _, q => by unfold D.py at q; cases q
theorem RpAll.py : ∀ (ds : List D) (vs : List V) (es : List PyData), RpAll K H vs ds → pyAll ds = some es → DpAll K H vs es
  | [], _, _, h, q => by cases h; unfold pyAll at q; cases q; exact .nil
  | d :: ds, _, _, h, q => by
    cases h with
    | cons h1 h2 =>
      unfold pyAll at q
      cases w1 : d.py with
      | none => rw [w1] at q; cases q
      | some x =>
        cases w2 : pyAll ds with
        | none => rw [w1, w2] at q; cases q
        | some xs => rw [w1, w2] at q; cases q; exact .cons (Rp.py d _ x h1 w1) (RpAll.py ds _ xs h2 w2)
end
/-! ### a datum's type -/
def D.ty : D → Option String
  | .non => some "NoneType"
  | .bl _ => some "bool"
  | .int _ => some "int"
  | .str _ => some "str"
  | .tup _ => some "tuple"
  | .lst _ => some "list"
  | .obj .. => none
theorem Rp.tyx : ∀ {d : D} {v : V} {n : String}, Rp K H v d → d.ty = some n → TyX K H v (.type n)
  | _, _, _, .non, e => by cases e; exact .base .non
  | _, _, _, .bl _, e => by cases e; exact .base (.bl _)
  | _, _, _, .int _, e => by cases e; exact .base (.int _)
  | _, _, _, .str _, e => by cases e; exact .base (.str _)
  | _, _, _, .tup h _, e => by
    cases e
    rcases h with (h | ⟨o, h⟩) | ⟨o, its, n, h1, h2, _⟩
    · exact .base (.tup h)
    · exact .fTuple h
    · exact .kTuple h1 h2
  | _, _, _, .lst h _, e => by
    cases e
    rcases h with (h | ⟨o, h⟩) | ⟨o, its, n, h1, h2, _⟩
    · exact .base (.lst h)
    · exact .base (.frz h)
    · exact .kList h1 h2
  | _, _, _, .obj .., e => by cases e
end
def D.isI : D → Bool
  | .int _ => true
  | .bl _ => true
  | _ => false
def D.whole : D → Bool
  | .int _ => true
  | _ => false
def D.isB : D → Bool
  | .bl _ => true
  | _ => false
def D.isS : D → Bool
  | .str _ => true
  | _ => false
def D.isT : D → Bool
  | .tup _ => true
  | _ => false
def D.isL : D → Bool
  | .lst _ => true
  | _ => false
theorem D.whole_eq (d : D) : d.whole = (d.isI && !d.isB) := by cases d <;> rfl
section
variable {X : Cx} {H : Hp} {Q : VK} {v : V} {d : D}
theorem callw_isi {n c : String} {b : Bool} (h : Rp X.K H v d) (e : d.ty = some n) (k : kitB n c = some b) (q : Q (.bl b) H) : CallW X (.builtin "isinstance") [v, .ty c] H Q :=
  callw_of call_isi ⟨v, .ty c, .type n, .type c, b, rfl, .ty c, h.tyx e, kit_ty k, q⟩
theorem isi_int (h : Rp X.K H v d) (o : d.ty.isSome = true) (q : Q (.bl d.isI) H) : CallW X (.builtin "isinstance") [v, .ty "int"] H Q := by
  cases d <;> first | exact callw_isi (b := true) h rfl (by decide +kernel) q | exact callw_isi (b := false) h rfl (by decide +kernel) q | cases o
theorem isi_bool (h : Rp X.K H v d) (o : d.ty.isSome = true) (q : Q (.bl d.isB) H) : CallW X (.builtin "isinstance") [v, .ty "bool"] H Q := by
  cases d <;> first | exact callw_isi (b := true) h rfl (by decide +kernel) q | exact callw_isi (b := false) h rfl (by decide +kernel) q | cases o
theorem isi_str (h : Rp X.K H v d) (o : d.ty.isSome = true) (q : Q (.bl d.isS) H) : CallW X (.builtin "isinstance") [v, .ty "str"] H Q := by
  cases d <;> first | exact callw_isi (b := true) h rfl (by decide +kernel) q | exact callw_isi (b := false) h rfl (by decide +kernel) q | cases o
theorem isi_tuple (h : Rp X.K H v d) (o : d.ty.isSome = true) (q : Q (.bl d.isT) H) : CallW X (.builtin "isinstance") [v, .ty "tuple"] H Q := by
  cases d <;> first | exact callw_isi (b := true) h rfl (by decide +kernel) q | exact callw_isi (b := false) h rfl (by decide +kernel) q | cases o
end
end Sx

/-! Sc: what loops and comprehensions walk; containers. -/
namespace Sx
open PySem PySem.Spec PyProof.Rows L2

section
variable (X : Cx)
def QI (tg iter : Expr) (σ : Sl) (H : Hp) (R : It → Hp → Prop) : Prop := ∀ (pins : List (Addr × Obj)) (s : Shared), Inv X pins σ H s → wpAny (model X.prog X.w) X.A (eval iter X.env) (fun v s1 => wpAny (model X.prog X.w) X.A (pyIter v) (PIE X pins σ tg R) X.xe s1) X.xe s
/-- in a comprehension's block, wherever it begins -/
def BG (scope : Scope) (tg : Expr) (v : V) (σ : Sl) (H : Hp) (Q : Sl → Hp → Prop) : Prop := ∀ (s : Shared) (H0 : Hp) (C : Addr) (cl : List (Str × Addr)) (fp : List Addr), QG (X.blk s H0 scope (compEnvC scope cl C X.env) fp) tg v σ H Q
def BE (scope : Scope) (e : Expr) (σ : Sl) (H : Hp) (Q : VK) : Prop := ∀ (s : Shared) (H0 : Hp) (C : Addr) (cl : List (Str × Addr)) (fp : List Addr), QE (X.blk s H0 scope (compEnvC scope cl C X.env) fp) e σ H Q
def BT (scope : Scope) (e : Expr) (σ : Sl) (H : Hp) (Q : Bool → Hp → Prop) : Prop := ∀ (s : Shared) (H0 : Hp) (C : Addr) (cl : List (Str × Addr)) (fp : List Addr), QT (X.blk s H0 scope (compEnvC scope cl C X.env) fp) e σ H Q
end
section
variable {X : Cx} {tg iter e a b l : Expr} {σ : Sl} {H : Hp} {R : It → Hp → Prop} {pos p : Pos}
theorem pi_sem : PI X tg iter (QI X tg iter) := ⟨fun pins s _ _ _ I h => h pins s I⟩
theorem qi_of {wi : TI} (h : PI X tg iter wi) (q : wi σ H R) : QI X tg iter σ H R := fun pins s I => h.run pins s σ H R I q
theorem qi_list (q : QE X l σ H fun x H1 => ∃ a, x = .ref a ∧ (∃ xs, SqL X.K H1 a xs) ∧ R (Itl X.K a) H1) : QI X tg l σ H R := qi_of (pi_list pe_sem) q
theorem qi_tup (q : QE X l σ H fun x H1 => ∃ a, x = .ref a ∧ (∃ xs, SqT X.K H1 a xs) ∧ R (Itt X.K a) H1) : QI X tg l σ H R := qi_of (pi_tup pe_sem) q
theorem qi_range1 (hm : X.mg "range" = none) (hg : Gl X "range") (hs : starEach [a] X.env = [(false, eval a X.env)]) (q : QE X a σ H fun x H1 => ∃ j : Int, x = .int j ∧ (-(2 ^ 62) ≤ j ∧ j < 2 ^ 62) ∧ R (Itr 0 j.toNat) H1) : QI X tg (.Call (.Name "range" p) [a] [] pos) σ H R :=
  qi_of (pi_range1 hg hm pa_sem hs) (wa_cons hs (by exact fun pins s I => thn (q pins s I) fun u s1 ⟨v, H1, J, r, j, e, ⟨h1, h2⟩, z⟩ => ⟨v, H1, J, r, wa_nil ⟨j, by rw [e], h1, h2, z⟩⟩))
theorem qi_range2 (hm : X.mg "range" = none) (hg : Gl X "range") (hs : starEach [a, b] X.env = [(false, eval a X.env), (false, eval b X.env)]) (hs2 : starEach [b] X.env = [(false, eval b X.env)])
    (q : QE X a σ H fun x H1 => QE X b σ H1 fun y H2 => ∃ i j : Int, x = .int i ∧ y = .int j ∧ (-(2 ^ 62) ≤ i ∧ i < 2 ^ 62 ∧ -(2 ^ 62) ≤ j ∧ j < 2 ^ 62) ∧ R (Itr i (j - i).toNat) H2) : QI X tg (.Call (.Name "range" p) [a, b] [] pos) σ H R :=
  qi_of (pi_range2 hg hm pa_sem hs hs2) (wa_cons (by rw [hs, hs2]) (by
    exact fun pins s I => thn (q pins s I) fun u s1 ⟨v, H1, J, r, z⟩ => ⟨v, H1, J, r, wa_cons hs2 (by
      exact fun pins s I => thn (z pins s I) fun u s1 ⟨v2, H2, J2, r2, i, j, e1, e2, h, z2⟩ => ⟨v2, H2, J2, r2, wa_nil ⟨i, j, by rw [e1, e2], h, z2⟩⟩)⟩))
theorem QI.imp {R' : It → Hp → Prop} (h : QI X tg iter σ H R) (k : ∀ J H1, R J H1 → R' J H1) : QI X tg iter σ H R' := fun pins s I => thn (h pins s I) fun v s1 h1 => thn h1 fun itv s2 ⟨it, fp, tn, J, H', e, J1, T, t0, f, r⟩ => ⟨it, fp, tn, J, H', e, J1, T, t0, f, k _ _ r⟩
/-- for: what it walks, Pv by the turn, the slots and the heap -/
theorem qs_for {body : List Stmt} {E : Ends} (hp : PassesOwn (model X.prog X.w) X.A X.env X.xe) (hc : X.calm = true) (hfs : ∀ x, foldedSetIterable iter X.env x = pure x)
    (q : QI X tg iter σ H fun J H1 => ∃ (n : Nat) (G : Hp → Prop) (Y : Nat → Hp → V → Hp → Prop), Walk J n G Y ∧ ∃ Pv : Nat → Sl → Hp → Prop, Pv 0 σ H1 ∧ (∀ i σ H, i ≤ n → Pv i σ H → G H) ∧
      (∀ i x σ H H', i < n → Pv i σ H → Y i H x H' → QG X tg x σ H' fun σ2 H2 => QB X body { E with nx := Pv (i + 1), ct := Pv (i + 1), bk := E.nx } σ2 H2) ∧ (∀ σ H, Pv n σ H → E.nx σ H)) : QS X (.For tg iter body [] pos) E σ H :=
  ws_of (ps_for hp hc pi_sem pg_sem pss_sem hfs) (q.imp fun J H1 ⟨n, G, Y, w, Pv, h0, hG, hs, hd⟩ => for_it w Pv h0 hG hs hd)
/-! ### comprehensions -/
def bits (n : Nat) (F : Nat → Option D) : List D := (List.range n).filterMap F
theorem bits_succ (n : Nat) (F : Nat → Option D) : bits (n + 1) F = bits n F ++ (F n).toList := by
  unfold bits
  rw [List.range_succ, List.filterMap_append]
  cases e : F n <;> simp [e]
theorem bits_len (n : Nat) (F : Nat → Option D) : (bits n F).length ≤ n := by
  unfold bits
  exact Nat.le_trans (List.length_filterMap_le _ _) (by simp)
/-- what a comprehension has made behind i turns -/
structure LcAt (K : PySem.W.Frag) (H1 : Hp) (Dl : Addr) (F : Nat → Option D) (i : Nat) (H : Hp) : Prop where
  s : Same H1 H
  l : ∃ acc, H Dl = some (.lst acc) ∧ RpAll K H acc (bits i F)
theorem LcAt.zero {K : PySem.W.Frag} {H1 : Hp} {Dl : Addr} {F : Nat → Option D} (h : H1 Dl = none) : LcAt K H1 Dl F 0 (upd H1 Dl (.lst [])) := ⟨same_new h, [], upd_same, .nil⟩
theorem LcAt.skip {K : PySem.W.Frag} {H1 H H' : Hp} {Dl : Addr} {F : Nat → Option D} {i : Nat} (h : LcAt K H1 Dl F i H) (s : Same H H') (e : F i = none) : LcAt K H1 Dl F (i + 1) H' := by
  obtain ⟨acc, h1, h2⟩ := h.l
  exact ⟨h.s.trans s, acc, s _ _ h1, by rw [bits_succ, e]; simpa using h2.to s⟩
theorem LcAt.more {K : PySem.W.Frag} {H1 H H' : Hp} {Dl : Addr} {F : Nat → Option D} {i : Nat} {y : V} {d : D} (h : LcAt K H1 Dl F i H) (h0 : H1 Dl = none) (s : Same H H') (e : F i = some d) (him : ∀ i d, F i = some d → d.im = true) (r : Rp K H' y d) :
    ∃ acc, H' Dl = some (.lst acc) ∧ acc.length = (bits i F).length ∧ LcAt K H1 Dl F (i + 1) (upd H' Dl (.lst (acc ++ [y]))) := by
  obtain ⟨acc, h1, h2⟩ := h.l
  have hk : ∀ b o, b ≠ Dl → H' b = some o → (upd H' Dl (.lst (acc ++ [y]))) b = some o := fun b o n q => by rw [upd_ne n]; exact q
  have hall : imAll (bits i F) = true := by
    rw [imAll_iff]
    intro d hd
    unfold bits at hd
    rw [List.mem_filterMap] at hd
    obtain ⟨j, _, hj⟩ := hd
    exact him j d hj
  refine ⟨acc, s _ _ h1, h2.len, ⟨fun b o q => ?_, acc ++ [y], upd_same, ?_⟩⟩
  · rw [upd_ne (ne_of_none q h0)]
    exact s _ _ (h.s _ _ q)
  · rw [bits_succ, e]
    exact (RpAll.keep ⟨acc, s _ _ h1⟩ hk _ _ hall (h2.to s)).snoc (Rp.keep ⟨acc, s _ _ h1⟩ hk _ _ (him i d e) r)
/-- a comprehension with at most one test, from its parts -/
def QT1 (X : Cx) (scope : Scope) : List Expr → Sl → Hp → (Bool → Hp → Prop) → Prop
  | [] => tYes
  | [c] => BT X scope c
  | _ => fun _ _ _ => False
def QL (X : Cx) (elt tg iter : Expr) (ifs : List Expr) (scope : Scope) (vs : List Nat) (σ : Sl) (H : Hp) (Q : VK) : Prop := tLc (QI X tg iter) (BG X scope tg) (QT1 X scope ifs) (BE X scope elt) vs σ H Q
theorem pts_1 {scope : Scope} : ∀ (ifs : List Expr) (s : Shared) (H : Hp) (C : Addr) (cl : List (Str × Addr)) (fp : List Addr), PTs (X.blk s H scope (compEnvC scope cl C X.env) fp) ifs (QT1 X scope ifs)
  | [], _, _, _, _, _ => pts_nil
  | [c], s, H, C, cl, fp => pts_one ⟨fun pins s1 σ1 H2 Q1 I h => h s H C cl fp pins s1 I⟩
  | _ :: _ :: _, _, _, _, _, _ => by
    exact ⟨fun _ _ _ _ _ _ h => h.elim⟩
theorem we_lc {elt : Expr} {ifs : List Expr} {scope : Scope} {own : List (Str × Nat)} {vs : List Nat} {Q : VK} (hv : own.map (·.2) = vs) (hc : X.calm = true) (nd : X.N.Nodup) (ok : BlkOk X.N X.env.scope scope own) (hs : ∀ x, foldedSetIterable iter X.env x = pure x)
    (q : QL X elt tg iter ifs scope vs σ H Q) : QE X (.ListComp elt [⟨tg, iter, ifs, 0⟩] scope pos) σ H Q := by
  subst hv
  exact we_of (pe_lc hc nd pi_sem ok (g := BG X scope tg) (tt := QT1 X scope ifs) (te := BE X scope elt) (fun s H0 C cl fp => ⟨fun pins s1 σ1 H2 v u Q1 I r h => h s H0 C cl fp pins s1 u I r⟩) (pts_1 ifs) (fun s H0 C cl fp => ⟨fun pins s1 σ1 H2 Q1 I h => h s H0 C cl fp pins s1 I⟩) hs) q
/-- name = [..] in a def -/
theorem ws_setLc {elt : Expr} {ifs : List Expr} {scope : Scope} {own : List (Str × Nat)} {vs : List Nat} {D : Ends} {y : Str} {j : Nat} {py spos : Pos} (hv : own.map (·.2) = vs) (hc : X.calm = true) (nd : X.N.Nodup) (hy : X.N[j]? = some y) (hyl : X.env.scope.names.lookup y = some .local)
    (hsw : swapsWith (.ListComp elt [⟨tg, iter, ifs, 0⟩] scope pos) (some (.Name y py)) spos.line X.env = pure true) (ok : BlkOk X.N X.env.scope scope own) (hs : ∀ x, foldedSetIterable iter X.env x = pure x)
    (q : QL X elt tg iter ifs scope vs σ H fun v H1 => D.nx (σ.set j (some v)) H1) : QS X (.Assign [.Name y py] (.ListComp elt [⟨tg, iter, ifs, 0⟩] scope pos) spos) D σ H := by
  subst hv
  exact ws_of (ps_setLc hc nd hy hyl hsw pi_sem ok (g := BG X scope tg) (tt := QT1 X scope ifs) (te := BE X scope elt) (fun s H0 C cl fp => ⟨fun pins s1 σ1 H2 v u Q1 I r h => h s H0 C cl fp pins s1 u I r⟩) (pts_1 ifs) (fun s H0 C cl fp => ⟨fun pins s1 σ1 H2 Q1 I h => h s H0 C cl fp pins s1 I⟩) hs) q
/-- [elt for tg in iter]: F tells what turn i brings -/
theorem ql_lc {elt : Expr} {scope : Scope} {vs : List Nat} {Q : VK} {σw : Sl} (hw : wipe σ vs = σw)
    (q : QI X tg iter σ H fun J H1 => ∃ (n : Nat) (G : Hp → Prop) (Y : Nat → Hp → V → Hp → Prop), Walk J n G Y ∧ n < sizeLine ∧ (∀ H', Same H1 H' → G H') ∧ ∃ F : Nat → Option D, (∀ i d, F i = some d → d.im = true) ∧
      (∀ i x H2 H3, i < n → Same H1 H2 → Y i H2 x H3 → BG X scope tg x σw H3 fun σ2 H4 => wipe σ2 vs = σw ∧ BE X scope elt σ2 H4 fun y H5 => Same H2 H5 ∧ ∃ d, F i = some d ∧ Rp X.K H5 y d) ∧
      (∀ p H2 ys, Same H1 H2 → H1 p = none → H2 p = some (.lst ys) → RpAll X.K H2 ys (bits n F) → Q (.ref p) H2)) : QL X elt tg iter [] scope vs σ H Q := by
  show QI X tg iter σ H _
  refine q.imp fun J H1 ⟨n, G, Y, w, hn, hG, F, him, hb, hq⟩ Dl hD => ?_
  refine lc_it w (LcAt X.K H1 Dl F) (LcAt.zero hD) (fun i H _ h => hG H h.s) (fun i x H2 H3 hi h y => ?_) (fun H2 h => ?_)
  · rw [hw]
    have hb' := hb i x H2 H3 hi h.s y
    intro s H0 C cl fp pins s1 u I r
    refine thn (hb' s H0 C cl fp pins s1 u I r) fun _ s2 ⟨σ2, H4, I4, e4, b4⟩ => ⟨σ2, H4, I4, e4, ?_⟩
    delta QT1 tYes
    dsimp only
    rw [if_pos rfl]
    intro s H0 C cl fp pins s1 I
    refine thn (b4 s H0 C cl fp pins s1 I) fun u s3 ⟨v, H5, I5, r5, s5, d, e5, rp⟩ => ⟨v, H5, I5, r5, ?_⟩
    obtain ⟨acc, h1, h2, h3⟩ := h.more hD s5 e5 him rp
    exact ⟨acc, h1, by rw [h2]; exact Nat.lt_of_le_of_lt (bits_len _ _) (by omega), h3⟩
  · obtain ⟨acc, h1, h2⟩ := h.l
    exact hq Dl H2 acc h.s hD h1 h2
/-- [elt for tg in iter if c] -/
theorem ql_lcT {elt c : Expr} {scope : Scope} {vs : List Nat} {Q : VK} {σw : Sl} (hw : wipe σ vs = σw)
    (q : QI X tg iter σ H fun J H1 => ∃ (n : Nat) (G : Hp → Prop) (Y : Nat → Hp → V → Hp → Prop), Walk J n G Y ∧ n < sizeLine ∧ (∀ H', Same H1 H' → G H') ∧ ∃ F : Nat → Option D, (∀ i d, F i = some d → d.im = true) ∧
      (∀ i x H2 H3, i < n → Same H1 H2 → Y i H2 x H3 → BG X scope tg x σw H3 fun σ2 H4 => wipe σ2 vs = σw ∧ BT X scope c σ2 H4 fun b H5 => (b = true → BE X scope elt σ2 H5 fun y H6 => Same H2 H6 ∧ ∃ d, F i = some d ∧ Rp X.K H6 y d) ∧ (b = false → Same H2 H5 ∧ F i = none)) ∧
      (∀ p H2 ys, Same H1 H2 → H1 p = none → H2 p = some (.lst ys) → RpAll X.K H2 ys (bits n F) → Q (.ref p) H2)) : QL X elt tg iter [c] scope vs σ H Q := by
  show QI X tg iter σ H _
  refine q.imp fun J H1 ⟨n, G, Y, w, hn, hG, F, him, hb, hq⟩ Dl hD => ?_
  refine lc_it w (LcAt X.K H1 Dl F) (LcAt.zero hD) (fun i H _ h => hG H h.s) (fun i x H2 H3 hi h y => ?_) (fun H2 h => ?_)
  · rw [hw]
    have hb' := hb i x H2 H3 hi h.s y
    intro s H0 C cl fp pins s1 u I r
    refine thn (hb' s H0 C cl fp pins s1 u I r) fun _ s2 ⟨σ2, H4, I4, e4, b4⟩ => ⟨σ2, H4, I4, e4, ?_⟩
    intro s H0 C cl fp pins s1 I
    refine thn (b4 s H0 C cl fp pins s1 I) fun b s3 ⟨H5, I5, t5, f5⟩ => ⟨H5, I5, ?_⟩
    cases b with
    | true =>
      rw [if_pos rfl]
      have t5 := t5 rfl
      intro s H0 C cl fp pins s1 I
      refine thn (t5 s H0 C cl fp pins s1 I) fun u s3 ⟨v, H5, I5, r5, s5, d, e5, rp⟩ => ⟨v, H5, I5, r5, ?_⟩
      obtain ⟨acc, h1, h2, h3⟩ := h.more hD s5 e5 him rp
      exact ⟨acc, h1, by rw [h2]; exact Nat.lt_of_le_of_lt (bits_len _ _) (by omega), h3⟩
    | false =>
      rw [if_neg Bool.false_ne_true]
      obtain ⟨s5, e5⟩ := f5 rfl
      exact h.skip s5 e5
  · obtain ⟨acc, h1, h2⟩ := h.l
    exact hq Dl H2 acc h.s hD h1 h2
/-! ### two clauses -/
def BI (X : Cx) (scope : Scope) (tg iter : Expr) (σ : Sl) (H : Hp) (R : It → Hp → Prop) : Prop := ∀ (s : Shared) (H0 : Hp) (C : Addr) (cl : List (Str × Addr)) (fp : List Addr), QI (X.blk s H0 scope (compEnvC scope cl C X.env) fp) tg iter σ H R
def QL2 (X : Cx) (elt tg iter tg1 iter1 : Expr) (ifs ifs1 : List Expr) (scope : Scope) (vs vs1 : List Nat) (σ : Sl) (H : Hp) (Q : VK) : Prop :=
  tLc2 (QI X tg iter) (BG X scope tg) (QT1 X scope ifs) (BI X scope tg1 iter1) (BG X scope tg1) (QT1 X scope ifs1) (BE X scope elt) vs vs1 σ H Q
theorem we_lc2 {elt tg1 iter1 : Expr} {ifs ifs1 : List Expr} {scope : Scope} {own : List (Str × Nat)} {vs vs1 : List Nat} {Q : VK} (hv : own.map (·.2) = vs) (hv1 : ∀ i ∈ vs1, i ∈ own.map (·.2)) (hc : X.calm = true) (nd : X.N.Nodup) (ok : BlkOk X.N X.env.scope scope own) (hs : ∀ x, foldedSetIterable iter X.env x = pure x) (hs1 : ∀ env x, foldedSetIterable iter1 env x = pure x)
    (q : QL2 X elt tg iter tg1 iter1 ifs ifs1 scope vs vs1 σ H Q) : QE X (.ListComp elt [⟨tg, iter, ifs, 0⟩, ⟨tg1, iter1, ifs1, 0⟩] scope pos) σ H Q := by
  subst hv
  exact we_of (pe_lc2 hc nd pi_sem ok hv1 (g := BG X scope tg) (tt := QT1 X scope ifs) (wi1 := BI X scope tg1 iter1) (g1 := BG X scope tg1) (tt1 := QT1 X scope ifs1) (te := BE X scope elt) (fun s H0 C cl fp => ⟨fun pins s1 σ1 H2 v u Q1 I r h => h s H0 C cl fp pins s1 u I r⟩) (pts_1 ifs)
    (fun s H0 C cl fp => ⟨fun pins s1 σ1 H2 R I h => h s H0 C cl fp pins s1 I⟩) (fun s H0 C cl fp => ⟨fun pins s1 σ1 H2 v u Q1 I r h => h s H0 C cl fp pins s1 u I r⟩) (pts_1 ifs1) (fun s H0 C cl fp => ⟨fun pins s1 σ1 H2 Q1 I h => h s H0 C cl fp pins s1 I⟩) hs hs1) q
theorem ws_setLc2 {elt tg1 iter1 : Expr} {ifs ifs1 : List Expr} {scope : Scope} {own : List (Str × Nat)} {vs vs1 : List Nat} {D : Ends} {y : Str} {j : Nat} {py spos : Pos} (hv : own.map (·.2) = vs) (hv1 : ∀ i ∈ vs1, i ∈ own.map (·.2)) (hc : X.calm = true) (nd : X.N.Nodup) (hy : X.N[j]? = some y) (hyl : X.env.scope.names.lookup y = some .local)
    (hsw : swapsWith (.ListComp elt [⟨tg, iter, ifs, 0⟩, ⟨tg1, iter1, ifs1, 0⟩] scope pos) (some (.Name y py)) spos.line X.env = pure true) (ok : BlkOk X.N X.env.scope scope own) (hs : ∀ x, foldedSetIterable iter X.env x = pure x) (hs1 : ∀ env x, foldedSetIterable iter1 env x = pure x)
    (q : QL2 X elt tg iter tg1 iter1 ifs ifs1 scope vs vs1 σ H fun v H1 => D.nx (σ.set j (some v)) H1) : QS X (.Assign [.Name y py] (.ListComp elt [⟨tg, iter, ifs, 0⟩, ⟨tg1, iter1, ifs1, 0⟩] scope pos) spos) D σ H := by
  subst hv
  exact ws_of (ps_setLc2 hc nd hy hyl hsw pi_sem ok hv1 (g := BG X scope tg) (tt := QT1 X scope ifs) (wi1 := BI X scope tg1 iter1) (g1 := BG X scope tg1) (tt1 := QT1 X scope ifs1) (te := BE X scope elt) (fun s H0 C cl fp => ⟨fun pins s1 σ1 H2 v u Q1 I r h => h s H0 C cl fp pins s1 u I r⟩) (pts_1 ifs)
    (fun s H0 C cl fp => ⟨fun pins s1 σ1 H2 R I h => h s H0 C cl fp pins s1 I⟩) (fun s H0 C cl fp => ⟨fun pins s1 σ1 H2 v u Q1 I r h => h s H0 C cl fp pins s1 u I r⟩) (pts_1 ifs1) (fun s H0 C cl fp => ⟨fun pins s1 σ1 H2 Q1 I h => h s H0 C cl fp pins s1 I⟩) hs hs1) q
/-- what the outer turns before i have made -/
def flat (m : Nat → Nat) (F : Nat → Nat → Option D) (i : Nat) : List D := (List.range i).flatMap fun i => bits (m i) (F i)
theorem flat_succ (m : Nat → Nat) (F : Nat → Nat → Option D) (i : Nat) : flat m F (i + 1) = flat m F i ++ bits (m i) (F i) := by
  unfold flat
  rw [List.range_succ, List.flatMap_append]
  simp
theorem flat_len (m : Nat → Nat) (F : Nat → Nat → Option D) (M : Nat) : ∀ i, (∀ k, k < i → m k ≤ M) → (flat m F i).length ≤ i * M
  | 0, _ => by simp [flat]
  | i + 1, h => by
    rw [flat_succ, List.length_append, Nat.succ_mul]
    have := flat_len m F M i fun k hk => h k (by omega)
    have := bits_len (m i) (F i)
    have := h i (by omega)
    omega
theorem flat_im {m : Nat → Nat} {F : Nat → Nat → Option D} (him : ∀ i j d, F i j = some d → d.im = true) (i j k : Nat) : imAll (flat m F i ++ bits j (F k)) = true := by
  rw [imAll_iff]
  intro d hd
  have aux : ∀ n i, d ∈ bits n (F i) → d.im = true := fun n i h => by
    unfold bits at h
    rw [List.mem_filterMap] at h
    obtain ⟨j, _, hj⟩ := h
    exact him i j d hj
  rw [List.mem_append] at hd
  rcases hd with hd | hd
  · unfold flat at hd
    rw [List.mem_flatMap] at hd
    obtain ⟨i, _, h⟩ := hd
    exact aux _ _ h
  · exact aux _ _ hd
structure LcL (K : PySem.W.Frag) (H1 : Hp) (Dl : Addr) (L : List D) (H : Hp) : Prop where
  s : Same H1 H
  l : ∃ acc, H Dl = some (.lst acc) ∧ RpAll K H acc L
theorem LcL.to {K : PySem.W.Frag} {H1 H H' : Hp} {Dl : Addr} {L : List D} (h : LcL K H1 Dl L H) (s : Same H H') : LcL K H1 Dl L H' := by
  obtain ⟨acc, h1, h2⟩ := h.l
  exact ⟨h.s.trans s, acc, s _ _ h1, h2.to s⟩
theorem LcL.more {K : PySem.W.Frag} {H1 H : Hp} {Dl : Addr} {L : List D} {y : V} {d : D} (h : LcL K H1 Dl L H) (h0 : H1 Dl = none) (him : imAll L = true) (hd : d.im = true) (r : Rp K H y d) :
    ∃ acc, H Dl = some (.lst acc) ∧ acc.length = L.length ∧ LcL K H1 Dl (L ++ [d]) (upd H Dl (.lst (acc ++ [y]))) := by
  obtain ⟨acc, h1, h2⟩ := h.l
  have hk : ∀ b o, b ≠ Dl → H b = some o → (upd H Dl (.lst (acc ++ [y]))) b = some o := fun b o n q => by rw [upd_ne n]; exact q
  refine ⟨acc, h1, h2.len, ⟨fun b o q => ?_, acc ++ [y], upd_same, ?_⟩⟩
  · rw [upd_ne (ne_of_none q h0)]
    exact h.s _ _ q
  · exact (RpAll.keep ⟨acc, h1⟩ hk _ _ him h2).snoc (Rp.keep ⟨acc, h1⟩ hk _ _ hd r)
/-- all but one list as it was -/
def Kp (H H' : Hp) : Prop := ∃ p, Lst H p ∧ ∀ b o, b ≠ p → H b = some o → H' b = some o
theorem Kp.rp {K : PySem.W.Frag} {H H' : Hp} {v : V} {d : D} (k : Kp H H') (h : Rp K H v d) (m : d.im = true) : Rp K H' v d := by
  obtain ⟨p, l, s⟩ := k
  exact Rp.keep l s d v m h
theorem Kp.rpA {K : PySem.W.Frag} {H H' : Hp} {v : List V} {d : List D} (k : Kp H H') (h : RpAll K H v d) (m : imAll d = true) : RpAll K H' v d := by
  obtain ⟨p, l, s⟩ := k
  exact RpAll.keep l s d v m h
/-- [elt for tg in iter for tg1 in iter1 (if c)]: F i j tells what the turn j in turn i brings -/
theorem ql_lc2 {elt tg1 iter1 : Expr} {ifs1 : List Expr} {scope : Scope} {vs vs1 : List Nat} {Q : VK} {σw : Sl} (hw : wipe σ vs = σw)
    (q : QI X tg iter σ H fun J H1 => ∃ (n : Nat) (G : Hp → Prop) (Y : Nat → Hp → V → Hp → Prop), Walk J n G Y ∧ (∀ H', Same H1 H' → G H') ∧ ∃ (m : Nat → Nat) (M : Nat) (F : Nat → Nat → Option D), n * M < sizeLine ∧ (∀ i, i < n → m i ≤ M) ∧ (∀ i j d, F i j = some d → d.im = true) ∧
      (∀ i x H2 H3, i < n → Same H1 H2 → Y i H2 x H3 → BG X scope tg x σw H3 fun σ2 H4 => wipe σ2 vs = σw ∧ BI X scope tg1 iter1 σ2 H4 fun J1 H5 => Same H2 H5 ∧ ∃ (G1 : Hp → Prop) (Y1 : Nat → Hp → V → Hp → Prop), Walk J1 (m i) G1 Y1 ∧ (∀ H', Same H1 H' → Kp H5 H' → G1 H') ∧
        ∀ j y H6 H7, j < m i → Same H1 H6 → Kp H5 H6 → Y1 j H6 y H7 → BG X scope tg1 y (wipe σ2 vs1) H7 fun σ3 H8 => wipe σ3 vs1 = wipe σ2 vs1 ∧
          QT1 X scope ifs1 σ3 H8 fun b H9 => (b = true → BE X scope elt σ3 H9 fun z H10 => Same H6 H10 ∧ ∃ d, F i j = some d ∧ Rp X.K H10 z d) ∧ (b = false → Same H6 H9 ∧ F i j = none)) ∧
      (∀ p H2 ys, Same H1 H2 → H1 p = none → H2 p = some (.lst ys) → RpAll X.K H2 ys (flat m F n) → Q (.ref p) H2)) : QL2 X elt tg iter tg1 iter1 [] ifs1 scope vs vs1 σ H Q := by
  show QI X tg iter σ H _
  refine q.imp fun J H1 ⟨n, G, Y, w, hG, m, M, F, hz, hm, him, hb, hq⟩ Dl hD => ?_
  refine ⟨fun i k H => k = n - i ∧ i ≤ n ∧ LcL X.K H1 Dl (flat m F i) H, ⟨n, by simp, Nat.zero_le _, ⟨same_new hD, [], upd_same, .nil⟩⟩, ?_⟩
  rintro i k H2 ⟨rfl, hi, p⟩
  by_cases hlt : i < n
  · refine .inr ⟨w.goes i H2 hlt (hG _ p.s), fun H' => LcL X.K H1 Dl (flat m F (i + 1)) H', fun H' p' => ⟨n - (i + 1), by omega, rfl, hlt, p'⟩, fun x H3 y => ?_⟩
    rw [hw]
    have hb' := hb i x H2 H3 hlt p.s (w.yields i H2 x H3 hlt (hG _ p.s) y)
    intro s H0 C cl fp pins s1 u I r
    refine thn (hb' s H0 C cl fp pins s1 u I r) fun _ s2 ⟨σ2, H4, I4, e4, b4⟩ => ⟨σ2, H4, I4, e4, ?_⟩
    delta QT1 tYes
    dsimp only
    rw [if_pos rfl]
    intro s H0 C cl fp pins s1 I
    refine thn (b4 s H0 C cl fp pins s1 I) fun v s3 h3 => ?_
    refine thn h3 fun itv s4 ⟨it, fp', tn, J1, H5, e, J2, T, t0, f, s5, G1, Y1, w1, hG1, hb1⟩ => ⟨it, fp', tn, J1, H5, e, J2, T, t0, f, ?_⟩
    obtain ⟨acc5, l5, _⟩ := (p.to s5).l
    refine ⟨fun j k H => k = m i - j ∧ j ≤ m i ∧ (∀ b o, b ≠ Dl → H5 b = some o → H b = some o) ∧ LcL X.K H1 Dl (flat m F i ++ bits j (F i)) H, ⟨m i, by simp, Nat.zero_le _, fun _ _ _ e => e, by simpa [bits] using p.to s5⟩, ?_⟩
    rintro j k H6 ⟨rfl, hj, s6, p6⟩
    by_cases hjlt : j < m i
    · refine .inr ⟨w1.goes j H6 hjlt (hG1 _ p6.s ⟨Dl, ⟨_, l5⟩, s6⟩), fun H' => (∀ b o, b ≠ Dl → H5 b = some o → H' b = some o) ∧ LcL X.K H1 Dl (flat m F i ++ bits (j + 1) (F i)) H', fun H' p' => ⟨m i - (j + 1), by omega, rfl, hjlt, p'.1, p'.2⟩, fun y H7 yy => ?_⟩
      have hb2 := hb1 j y H6 H7 hjlt p6.s ⟨Dl, ⟨_, l5⟩, s6⟩ (w1.yields j H6 y H7 hjlt (hG1 _ p6.s ⟨Dl, ⟨_, l5⟩, s6⟩) yy)
      intro s H0 C cl fp pins s1 u I r
      refine thn (hb2 s H0 C cl fp pins s1 u I r) fun _ s2 ⟨σ3, H8, I8, e8, b8⟩ => ⟨σ3, H8, I8, e8, ?_⟩
      have go : ∀ (b : Bool) (H9 : Hp), ((b = true → BE X scope elt σ3 H9 fun z H10 => Same H6 H10 ∧ ∃ d, F i j = some d ∧ Rp X.K H10 z d) ∧ (b = false → Same H6 H9 ∧ F i j = none)) →
          if b = true then BE X scope elt σ3 H9 fun y H7 => ∃ acc, H7 Dl = some (.lst acc) ∧ acc.length < sizeLine ∧ ((∀ b o, b ≠ Dl → H5 b = some o → (upd H7 Dl (.lst (acc ++ [y]))) b = some o) ∧ LcL X.K H1 Dl (flat m F i ++ bits (j + 1) (F i)) (upd H7 Dl (.lst (acc ++ [y])))) else ((∀ b o, b ≠ Dl → H5 b = some o → H9 b = some o) ∧ LcL X.K H1 Dl (flat m F i ++ bits (j + 1) (F i)) H9) := by
        intro b H9 ⟨t9, f9⟩
        cases b with
        | true =>
          rw [if_pos rfl]
          have t9 := t9 rfl
          intro s H0 C cl fp pins s1 I
          refine thn (t9 s H0 C cl fp pins s1 I) fun u s3 ⟨z, H10, I10, r10, s10, d, ed, rp⟩ => ⟨z, H10, I10, r10, ?_⟩
          obtain ⟨acc, g1, g2, g3⟩ := (p6.to s10).more hD (flat_im him i j i) (him _ _ _ ed) rp
          refine ⟨acc, g1, ?_, ?_, ?_⟩
          · rw [g2, List.length_append]
            have a1 := flat_len m F M i fun k hk => hm k (by omega)
            have a2 := bits_len j (F i)
            have a3 := hm i hlt
            have a4 : i * M + M ≤ n * M := by
              rw [← Nat.succ_mul]
              exact Nat.mul_le_mul_right _ hlt
            omega
          · intro b o hb e
            rw [upd_ne hb]
            exact s10 _ _ (s6 b o hb e)
          · rw [bits_succ, ed, ← List.append_assoc]
            exact g3
        | false =>
          rw [if_neg Bool.false_ne_true]
          obtain ⟨s9, e9⟩ := f9 rfl
          refine ⟨fun b o hb e => s9 _ _ (s6 b o hb e), ?_⟩
          rw [bits_succ, e9]
          simpa using p6.to s9
      cases ifs1 with
      | nil => exact go true H8 b8
      | cons c r =>
        cases r with
        | nil =>
          intro s H0 C cl fp pins s1 I
          refine thn (b8 s H0 C cl fp pins s1 I) fun b s3 ⟨H9, I9, b9⟩ => ⟨H9, I9, go b H9 b9⟩
        | cons _ _ => exact b8.elim
    · have e : j = m i := by omega
      subst e
      refine .inl ⟨w1.stops H6 (hG1 _ p6.s ⟨Dl, ⟨_, l5⟩, s6⟩), ?_⟩
      rw [flat_succ]
      exact p6
  · have e : i = n := by omega
    subst e
    obtain ⟨acc, h1, h2⟩ := p.l
    exact .inl ⟨w.stops H2 (hG _ p.s), hq Dl H2 acc p.s hD h1 h2⟩
end
end Sx

/-! St: try with several clauses, some of them with a name; raise. -/
namespace Sx
open PySem PySem.Spec PyProof.Rows L2

abbrev TSu := Addr → Value → Option Addr → TS
/-- the ends of a suite whose name (slot i) is struck behind it -/
def Ends.strike (E : Ends) (i : Nat) : Ends := { nx := fun σ H => E.nx (σ.set i none) H, rt := E.rt, bk := fun σ H => E.bk (σ.set i none) H, ct := fun σ H => E.ct (σ.set i none) H }
/-- what the clauses wish of an exception, one after another -/
def wMix (K : PySem.W.Frag) (W0 : WX) (E : Ends) : List (Value × Option Nat × TSu) → WX
  | [] => W0
  | (c, none, ts) :: r => fun k d σ H => ∃ b, PySem.W.exmOne K k c = some b ∧ (b = true → ∀ a, H a = none → ts a k d E σ H) ∧ (b = false → wMix K W0 E r k d σ H)
  | (c, some i, ts) :: r => fun k d σ H => ∃ b, PySem.W.exmOne K k c = some b ∧ (b = true → ∀ a, H a = none → ts a k d (Ends.strike E i) (σ.set i (some (.ref a))) H) ∧ (b = false → wMix K W0 E r k d σ H)
inductive Clauses (X : Cx) : List ExceptHandler → List (Value × Option Nat × TSu) → Prop
  | nil : Clauses X [] []
  | bare {x : Str} {c : Value} {ts : TSu} {b0 : Stmt} {su : List Stmt} {np ps : Pos} {hs : List ExceptHandler} {l : List (Value × Option Nat × TSu)} (hc : Names X x c)
      (hu : ∀ (a : Addr) (o : Obj) (k : Value) (d : Option Addr) (pn : List (Addr × Obj)), Zc k d o → (∃ vs, o.data = .fields vs) → PSs (X.suite a ((a, o) :: pn)) (b0 :: su) (ts a k d)) (r : Clauses X hs l) :
      Clauses X (.ExceptHandler (some (.Name x np)) none (b0 :: su) ps :: hs) ((c, none, ts) :: l)
  | as {x n : Str} {i : Nat} {c : Value} {ts : TSu} {b0 : Stmt} {su : List Stmt} {np ps : Pos} {hs : List ExceptHandler} {l : List (Value × Option Nat × TSu)} (hc : Names X x c) (nd : X.N.Nodup) (hi : X.N[i]? = some n) (hl : X.env.kindOf n = some .local)
      (hu : ∀ (a : Addr) (o : Obj) (k : Value) (d : Option Addr) (pn : List (Addr × Obj)), Zc k d o → (∃ vs, o.data = .fields vs) → PSs (X.suite a ((a, o) :: pn)) (b0 :: su) (ts a k d)) (r : Clauses X hs l) :
      Clauses X (.ExceptHandler (some (.Name x np)) (some n) (b0 :: su) ps :: hs) ((c, some i, ts) :: l)
section
variable {X : Cx} {body : List Stmt} {h1 : ExceptHandler} {hs : List ExceptHandler} {l : List (Value × Option Nat × TSu)} {pos : Pos} {tb : WX → TS} {W0 : WX}
theorem ps_mix (hst : X.stack = X.env :: X.outer) (hfr0 : X.env.frame = some X.env.locals) (tk : Takes X W0)
    (hb : ∀ (W : WX) (pn : List (Addr × Obj)) (xe : Value → Shared → Prop), Takes (X.tr pn xe) W → PassesOwn (model X.prog X.w) X.A X.env xe → PSs (X.tr pn xe) body (tb W))
    (hh : Clauses X (h1 :: hs) l) : PS X (.Try body (h1 :: hs) [] [] pos) (fun E σ H => tb (wMix X.K W0 E l) E σ H) := by
  refine ⟨fun pins s σ H E I hw => ?_⟩
  have ok := I.ok
  have fr : X.A.frames = some (X.env :: X.outer) := ok.frames.trans (by rw [hst])
  refine wpAny_Try_except (wpAny_mono ((hb (wMix X.K W0 E l) (X.pn ++ pins) (fun e z1 => wpAny (model X.prog X.w) X.A (noteFrame e X.env) (fun _ z2 => wpAny (model X.prog X.w) X.A (setFlight e none) (fun _ z3 =>
    wpAny (model X.prog X.w) X.A (handleBy e X.env (h1 :: hs)) (SP X pins E) X.xe z3) X.xe z2) X.xe z1) (fun u z xx => ?_) PassesOwn.looking).run [] s σ H E (I.toTry _) hw) (fun f z hz => ?_) fun _ _ he => he)
  · obtain ⟨a, B, sI, pi2, τ, H', k, d, rfl, J', nb, up, sky, na, os, ag, wi⟩ := xx
    have J : Inv X pins τ H' sI := J'.ofTry ok
    have sky2 : Sky B (X.env :: X.outer) a (Zc k d) X.env.locals z.heap := by rw [hst] at sky; exact sky
    show wpAny (model X.prog X.w) X.A (noteFrame (.ref a) X.env) _ _ _
    refine Sky.land Zc.steady fr hfr0 sky2 fun g fl upg => ?_
    have Jg : Inv X pins τ H' { z with heap := g } := J.landed nb fl.1 (up.trans upg) os ag
    obtain ⟨og, vg, hog, hzg, hdg⟩ := fl.there
    have noFrame : a ∉ frs (X.env :: X.outer) := fun hm => by
      obtain ⟨_, o', e', q⟩ := fl.2.2.1.mem hm
      rw [hog] at e'
      cases e'
      exact q _ hdg
    have nL : a ≠ X.env.locals := fun q => noFrame (List.mem_filterMap.mpr ⟨X.env, List.mem_cons_self, by rw [hfr0, q]⟩)
    have nF : a ∉ X.fs := fun hm => by
      obtain ⟨e, he, q⟩ := List.mem_filterMap.mp hm
      exact noFrame (List.mem_filterMap.mpr ⟨e, List.mem_cons_of_mem _ he, q⟩)
    have Sg := Jg.suite hog hdg na nL nF
    have LT : PySem.W.Looks (model X.prog X.w) g (typeOf (.ref a)) k := fun A Q E' s' kk q => wpAny_typeOf_ref (kk _ _ hog) (by rw [hzg.1]; exact q)
    have look : ∀ {x : Str} {c : Value} {np : Pos} {Q : Value → Shared → Prop} {E' : Value → Shared → Prop}, Names X x c → Q c { z with heap := g } → wpAny (model X.prog X.w) (X.A.mark (some (.ref a))) (eval (.Name x np) X.env) Q E' { z with heap := g } := fun {x c np Q E'} hc q => by
      obtain ⟨hg, hdb, hm | ⟨hm, hv, hnn⟩⟩ := hc
      · exact ld_glob (X := X.suite a ((a, og) :: (X.pn ++ pins))) Sg hg hm q hdb
      · exact ld_blt (X := X.suite a ((a, og) :: (X.pn ++ pins))) Sg hg hm hv q hnn hdb
    have go : ∀ {hs' : List ExceptHandler} {l' : List (Value × Option Nat × TSu)}, Clauses X hs' l' → wMix X.K W0 E l' k d τ H' → wpAny (model X.prog X.w) X.A (handleBy (.ref a) X.env hs') (SP X pins E) X.xe { z with heap := g } := by
      intro hs' l' hk
      induction hk with
      | nil =>
        intro wi
        refine wpAny_handleBy_nil ?_
        obtain ⟨_, _, _, oe, vs, T, _, _, he, _, hd, hT, _⟩ := id fl
        unfold PySem.passOn
        refine wpAny_bind (wpAny_field he hd hT ?_)
        rw [if_neg (show ¬ ((Value.ref T == Value.none) = true) from by simp)]
        have fin : wpAny (model X.prog X.w) X.A (setFlight (.ref a) X.env.frame) (fun _ z4 => wpAny (model X.prog X.w) X.A (throw (.ref a) : Sem Flow) (SP X pins E) X.xe z4) X.xe { z with heap := g } := by
          rw [hfr0]
          exact HandSPX.setFlight_upZ fl fun h4 hh4 up4 => wpAny_throw (tk _ _ ⟨a, B, sI, pins, τ, H', k, d, rfl, J, nb, (up.trans upg).trans up4, .inr (.inr (by rw [hst]; exact hh4)), na, os, ag, wi⟩)
        first | exact wpAny_bind (wpAny_pure (wpAny_bind fin)) | exact wpAny_bind fin
      | @bare x c ts b0 su np ps hs2 l2 hc hu r ih =>
        intro wi
        obtain ⟨b, e1, yes, no⟩ := wi
        refine wpAny_handleBy_cons (codeAny_handlers_test (look hc ((PySem.W.exm_one (M := model X.prog X.w) Jg.kIn LT e1).here ?_))) (fun q => by cases q)
        cases b with
        | false => exact ih (no rfl)
        | true =>
          refine codeAny_handlers_suite (HandSPX.lands_againZ fl fun h4 fl4 up4 => ?_)
          have J4 : Inv X pins τ H' { z with heap := h4 } := J.landed nb fl4.1 ((up.trans upg).trans up4) os ag
          obtain ⟨o4, v4, he4, hz4, hd4⟩ := fl4.there
          refine wpAny_mono ((hu a o4 k d (X.pn ++ pins) hz4 ⟨_, hd4⟩).run [] _ _ H' _ (J4.suite he4 hd4 na nL nF) (yes rfl a na)) (fun f z6 hz6 => ?_) fun _ _ q => q.elim
          cases f with
          | next => obtain ⟨σ6, H6, S6, q6⟩ := hz6; exact ⟨_, _, S6.unsuite ok, q6⟩
          | brk => obtain ⟨σ6, H6, S6, q6⟩ := hz6; exact ⟨_, _, S6.unsuite ok, q6⟩
          | cont => obtain ⟨σ6, H6, S6, q6⟩ := hz6; exact ⟨_, _, S6.unsuite ok, q6⟩
          | ret u => obtain ⟨v6, σ6, H6, S6, r6, q6⟩ := hz6; exact ⟨_, _, _, S6.unsuite ok, r6, q6⟩
      | @as x n i c ts b0 su np ps hs2 l2 hc nd hi hl hu r ih =>
        intro wi
        obtain ⟨b, e1, yes, no⟩ := wi
        refine wpAny_handleBy_cons (codeAny_handlers_test (look hc ((PySem.W.exm_one (M := model X.prog X.w) Jg.kIn LT e1).here ?_))) (fun q => by cases q)
        cases b with
        | false => exact ih (no rfl)
        | true =>
          refine codeAny_handlers_suite_as (HandSPX.lands_againZ fl fun h4 fl4 up4 => ?_)
          have J4 : Inv X pins τ H' { z with heap := h4 } := J.landed nb fl4.1 ((up.trans upg).trans up4) os ag
          obtain ⟨o4, v4, he4, hz4, hd4⟩ := fl4.there
          refine store_ok (X := X.suite a ((a, o4) :: (X.pn ++ pins))) (v := .ref a) (J4.suite he4 hd4 na nL nF) nd hi (.inl hl) rfl (fun s5 S5 => ?_) (.inr hl)
          refine wpAny_mono ((hu a o4 k d (X.pn ++ pins) hz4 ⟨_, hd4⟩).run [] s5 _ H' _ S5 (yes rfl a na)) (fun f z6 hz6 => ?_) fun _ _ q => q.elim
          have off : ∀ {σ6 : Sl} {H6 : Hp} {Q : Shared → Prop}, Inv (X.suite a ((a, o4) :: (X.pn ++ pins))) [] σ6 H6 z6 → (∀ z7, Inv X pins (σ6.set i none) H6 z7 → Q z7) →
              wpAny (model X.prog X.w) X.A (do bindName X.env n .none; unbindBehindTheSuite X.env n ps) (fun _ z7 => Q z7) X.xe z6 := fun {σ6 H6 Q} S6 q => gone_ok (S6.unsuite ok) nd hi hl q
          cases f with
          | next => obtain ⟨σ6, H6, S6, q6⟩ := hz6; exact off S6 fun z7 J7 => ⟨_, _, J7, q6⟩
          | brk => obtain ⟨σ6, H6, S6, q6⟩ := hz6; exact off S6 fun z7 J7 => ⟨_, _, J7, q6⟩
          | cont => obtain ⟨σ6, H6, S6, q6⟩ := hz6; exact off S6 fun z7 J7 => ⟨_, _, J7, q6⟩
          | ret u => obtain ⟨v6, σ6, H6, S6, r6, q6⟩ := hz6; exact off S6 fun z7 J7 => ⟨_, _, _, J7, r6, q6⟩
    exact go hh wi
  · cases f with
    | next => obtain ⟨τ, H', J', q⟩ := hz; exact wpAny_execs_nil ⟨τ, H', J'.ofTry ok, q⟩
    | brk => obtain ⟨τ, H', J', q⟩ := hz; exact ⟨τ, H', J'.ofTry ok, q⟩
    | cont => obtain ⟨τ, H', J', q⟩ := hz; exact ⟨τ, H', J'.ofTry ok, q⟩
    | ret u => obtain ⟨v, τ, H', J', r, q⟩ := hz; exact ⟨v, τ, H', J'.ofTry ok, r, q⟩
end
end Sx

/-! Sr: rules for containers, subscripts, calls that raise. -/
namespace Sx
open PySem PySem.Spec PyProof.Rows L2

section
variable {K : PySem.W.Frag} {H : Hp}
theorem RpAll.ats : ∀ {vs : List V} {ds : List D} {i : Int} {d : D}, RpAll K H vs ds → atI ds i = some d → ∃ v, atI vs i = some v ∧ Rp K H v d := by
  intro vs ds i d h e
  unfold atI at e ⊢
  rw [h.len]
  cases w : ixN ds.length i with
  | none => rw [w] at e; cases e
  | some j =>
    rw [w] at e
    exact h.getD' e
theorem Rp.tup_inv {v : V} {ds : List D} (h : Rp K H v (.tup ds)) : ∃ a xs, v = .ref a ∧ SqT K H a xs ∧ RpAll K H xs ds := by
  cases h with
  | tup h1 h2 => exact ⟨_, _, rfl, h1, h2⟩
theorem Rp.lst_inv {v : V} {ds : List D} (h : Rp K H v (.lst ds)) : ∃ a xs, v = .ref a ∧ SqL K H a xs ∧ RpAll K H xs ds := by
  cases h with
  | lst h1 h2 => exact ⟨_, _, rfl, h1, h2⟩
theorem Rp.int_inv {v : V} {i : Int} (h : Rp K H v (.int i)) : v = .int i := by cases h; rfl
theorem Rp.bl_inv {v : V} {i : Bool} (h : Rp K H v (.bl i)) : v = .bl i := by cases h; rfl
theorem Rp.str_inv {v : V} {i : Str} (h : Rp K H v (.str i)) : v = .str i := by cases h; rfl
theorem Rp.non_inv {v : V} (h : Rp K H v .non) : v = .non := by cases h; rfl
theorem Rp.tupOf {a : Addr} {xs : List V} {ds : List D} (h : H a = some (.tup xs)) (r : RpAll K H xs ds) : Rp K H (.ref a) (.tup ds) := .tup (.inl (.inl h)) r
theorem Rp.lstOf {a : Addr} {xs : List V} {ds : List D} (h : H a = some (.lst xs)) (r : RpAll K H xs ds) : Rp K H (.ref a) (.lst ds) := .lst (.inl (.inl h)) r
end

section
variable (X : Cx)
def IxW (x y : V) (H : Hp) (Q : VK) : Prop := ∀ (value slice : Expr) (pins : List (Addr × Obj)) (s : Shared) (σ : Sl) (v u : Value), Inv X pins σ H s → RelV x v → RelV y u →
  subscripted slice false v u = operate [v, u] (getItem v u) → wpAny (model X.prog X.w) X.A (subscriptTail value slice v u) (EP X pins σ Q) X.xe s
def SetW (o i v : V) (H : Hp) (Q : Hp → Prop) : Prop := ∀ (pins : List (Addr × Obj)) (s : Shared) (σ : Sl) (ov iv u : Value), Inv X pins σ H s → RelV o ov → RelV i iv → RelV v u → wpAny (model X.prog X.w) X.A (setItem ov iv u) (fun _ s' => ∃ H', Inv X pins σ H' s' ∧ Q H') X.xe s
end
section
variable {X : Cx} {a b : Expr} {σ : Sl} {H : Hp} {Q : VK} {x y v w : V} {pos p : Pos} {d d' : D} {ds es : List D}
theorem ix_sem : IxR X (IxW X) := fun value slice pins s σ _ _ _ v u _ I rx ry h hs => h value slice pins s σ v u I rx ry hs
theorem we_ix (hs : PlainIx b) (q : QE X a σ H fun x H1 => QE X b σ H1 fun y H2 => IxW X x y H2 Q) : QE X (.Subscript a b pos) σ H Q := we_of (pe_ix ix_sem pe_sem pe_sem hs) q
theorem ixw_of {r : R2} (h : IxR X r) (q : r x y H Q) : IxW X x y H Q := fun value slice pins s σ v u I rx ry hs => h value slice pins s σ H x y v u Q I rx ry q hs
theorem ixw_tup {i : Int} (h : Rp X.K H x (.tup ds)) (e : atI ds i = some d) (q : ∀ v, Rp X.K H v d → Q v H) : IxW X x (.int i) H Q := by
  obtain ⟨a, xs, rfl, h1, h2⟩ := h.tup_inv
  obtain ⟨v, h3, h4⟩ := h2.ats e
  exact ixw_of ix_tup ⟨a, xs, i, v, rfl, rfl, h1, h3, q v h4⟩
theorem ixw_lst {i : Int} (h : Rp X.K H x (.lst ds)) (e : atI ds i = some d) (q : ∀ v, Rp X.K H v d → Q v H) : IxW X x (.int i) H Q := by
  obtain ⟨a, xs, rfl, h1, h2⟩ := h.lst_inv
  obtain ⟨v, h3, h4⟩ := h2.ats e
  exact ixw_of ix_list ⟨a, xs, i, v, rfl, rfl, h1, h3, q v h4⟩
theorem ixw_sl {i : Int} {a : Addr} {xs : List V} {v : V} (h : SqL X.K H a xs) (e : atI xs i = some v) (q : Q v H) : IxW X (.ref a) (.int i) H Q := ixw_of ix_list ⟨a, xs, i, v, rfl, rfl, h, e, q⟩
theorem ixw_st {i : Int} {a : Addr} {xs : List V} {v : V} (h : SqT X.K H a xs) (e : atI xs i = some v) (q : Q v H) : IxW X (.ref a) (.int i) H Q := ixw_of ix_tup ⟨a, xs, i, v, rfl, rfl, h, e, q⟩
/-! xs[i] = v -/
theorem set_sem : PSet X (SetW X) := fun pins s σ H o i v ov iv u Q I ro ri rv h => h pins s σ ov iv u I ro ri rv
theorem wg_sub {o i : Expr} {Q : Sl → Hp → Prop} (ha : ∀ v, assign (.Subscript o i pos) X.env v = (do
      let ov ← holding [v] (eval o X.env)
      let iv ← holding [v, ov] (eval i X.env)
      standAt pos
      holding [v, ov, iv] (setItem ov iv v)
      release [v, ov, iv] [])) (q : QE X o σ H fun x H1 => QE X i σ H1 fun y H2 => SetW X x y v H2 (Q σ)) : QG X (.Subscript o i pos) v σ H Q :=
  wg_of (pg_sub pe_sem pe_sem set_sem ha) q
theorem setw_lst {o : Addr} {xs : List V} {k : Int} {j : Nat} {Q : Hp → Prop} (h : H o = some (.lst xs)) (e : ixN xs.length k = some j) (q : Q (upd H o (.lst (xs.set j v)))) : SetW X (.ref o) (.int k) v H Q :=
  fun pins s σ ov iv u I ro ri rv => set_list pins s σ H (.ref o) (.int k) v ov iv u Q I ro ri rv ⟨o, xs, k, j, rfl, rfl, h, e, q⟩
/-! ### len, concat, conversions, all, any, sum -/
theorem callw_len_t (h : Rp X.K H x (.tup ds)) (q : Q (.int ds.length) H) : CallW X (.builtin "len") [x] H Q := by
  obtain ⟨a, xs, rfl, h1, h2⟩ := h.tup_inv
  refine callw_of call_len ⟨.ref a, xs.length, rfl, ?_, by rw [h2.len]; exact q⟩
  exact .inr ⟨xs, h1, rfl⟩
theorem callw_len_l (h : Rp X.K H x (.lst ds)) (q : Q (.int ds.length) H) : CallW X (.builtin "len") [x] H Q := by
  obtain ⟨a, xs, rfl, h1, h2⟩ := h.lst_inv
  refine callw_of call_len ⟨.ref a, xs.length, rfl, ?_, by rw [h2.len]; exact q⟩
  exact .inl ⟨xs, h1, rfl⟩
theorem callw_all {a : Addr} {xs : List V} {bs : List Bool} (hc : X.calm = true) (h : H a = some (.lst xs)) (r : RpAll X.K H xs (bs.map D.bl)) (q : Q (.bl (bs.all id)) H) : CallW X (.builtin "all") [.ref a] H Q := by
  refine callw_of (cr_all hc) ⟨a, bs, rfl, ?_, q⟩
  rw [← r.bls_inv]
  exact .inl (.inl h)
theorem callw_any {a : Addr} {xs : List V} {bs : List Bool} (hc : X.calm = true) (h : H a = some (.lst xs)) (r : RpAll X.K H xs (bs.map D.bl)) (q : Q (.bl (bs.any id)) H) : CallW X (.builtin "any") [.ref a] H Q := by
  refine callw_of (cr_any hc) ⟨a, bs, rfl, ?_, q⟩
  rw [← r.bls_inv]
  exact .inl (.inl h)
theorem callw_sum {a : Addr} {xs : List V} {ns : List Int} (hc : X.calm = true) (h : H a = some (.lst xs)) (r : RpAll X.K H xs (ns.map D.int)) (q : Q (.int ns.sum) H) : CallW X (.builtin "sum") [.ref a] H Q := by
  refine callw_of (cr_sum hc) ⟨a, ns, rfl, ?_, q⟩
  rw [← r.ints_inv]
  exact .inl (.inl h)
theorem callw_tuple_t (h : Rp X.K H x (.tup ds)) (q : Q x H) : CallW X (.type "tuple") [x] H Q := by
  obtain ⟨a, xs, rfl, h1, h2⟩ := h.tup_inv
  exact callw_of call_tuple_of ⟨a, xs, rfl, .inr ⟨h1, q⟩⟩
theorem callw_tuple_l (h : Rp X.K H x (.lst ds)) (q : ∀ v H', Same H H' → Rp X.K H' v (.tup ds) → Q v H') : CallW X (.type "tuple") [x] H Q := by
  obtain ⟨a, xs, rfl, h1, h2⟩ := h.lst_inv
  exact callw_of call_tuple_of ⟨a, xs, rfl, .inl ⟨h1, fun l hl => q _ _ (same_new hl) (.tupOf upd_same (h2.to (same_new hl)))⟩⟩
theorem opw_catT (h1 : Rp X.K H x (.tup ds)) (h2 : Rp X.K H y (.tup es)) (hl : ds.length + es.length ≤ sizeLine) (q : ∀ v H', Same H H' → Rp X.K H' v (.tup (ds ++ es)) → Q v H') : OpW X (binaryOp .Add) x y H Q := by
  obtain ⟨a, xs, rfl, h3, h4⟩ := h1.tup_inv
  obtain ⟨b, ys, rfl, h5, h6⟩ := h2.tup_inv
  refine opw_of op_catA ⟨a, b, xs, ys, rfl, rfl, h3, h5, by rw [h4.len, h6.len]; exact hl, fun e => ?_, fun _ e => ?_, fun _ _ p hp => ?_⟩
  · subst e
    cases h4
    exact q _ _ (Same.refl _) h2
  · subst e
    cases h6
    rw [List.append_nil] at q
    exact q _ _ (Same.refl _) h1
  · exact q _ _ (same_new hp) (.tupOf upd_same ((h4.app h6).to (same_new hp)))
theorem opw_catL {a b : Addr} {xs ys : List V} (h1 : H a = some (.lst xs)) (h2 : H b = some (.lst ys)) (hl : xs.length + ys.length ≤ sizeLine) (q : ∀ p H', H p = none → Same H H' → H' p = some (.lst (xs ++ ys)) → Q (.ref p) H') : OpW X (binaryOp .Add) (.ref a) (.ref b) H Q :=
  opw_of op_cat ⟨a, b, xs, ys, rfl, rfl, h1, h2, hl, fun p hp => q _ _ hp (same_new hp) upd_same⟩
theorem callw_strI {i : Int} (hb : i.natAbs.log2 < 1920) (q : Q (.str (toString i)) H) : CallW X (.type "str") [.int i] H Q := callw_of call_str_int ⟨i, rfl, hb, q⟩
theorem we_join {o e : Expr} {apos : Pos} {z : Str} (q : QE X o σ H fun x H1 => x = .str z ∧ QE X e σ H1 fun y H2 => ∃ ys : List Str, (Rp X.K H2 y (.lst (ys.map D.str)) ∨ Rp X.K H2 y (.tup (ys.map D.str))) ∧ (ys.map (·.length)).sum + ys.length * z.length ≤ 16777216 ∧ Q (.str (Txt.join z ys)) H2)
    (hs : starEach [e] X.env = [(false, eval e X.env)]) (hbase : attributeBase o "join" X.env (eval o X.env) = eval o X.env) (hline : (apos.endLine == pos.line) = true) : QE X (.Call (.Attribute o "join" apos) [e] [] pos) σ H Q := by
  refine we_of (pe_join pe_sem pe_sem hs hbase hline) ?_
  intro pins s I
  refine thn (q pins s I) fun u s1 ⟨x, H1, I1, r1, ex, q1⟩ => ⟨x, H1, I1, r1, ⟨z, ex⟩, ?_⟩
  intro pins s I
  refine thn (q1 pins s I) fun u s1 ⟨y, H2, I2, r2, ys, h, hz, q2⟩ => ⟨y, H2, I2, r2, ?_⟩
  rcases h with h | h
  · obtain ⟨a, xs, rfl, h1, h2⟩ := h.lst_inv
    rw [h2.strs_inv] at h1
    exact ⟨z, a, ys, ex, rfl, .inl h1, hz, q2⟩
  · obtain ⟨a, xs, rfl, h1, h2⟩ := h.tup_inv
    rw [h2.strs_inv] at h1
    exact ⟨z, a, ys, ex, rfl, .inr h1, hz, q2⟩
end
/-! ### equality of data: ints, texts, tuples and lists of such -/
mutual
def D.pure : D → Bool
  | .non => true
  | .int _ => true
  | .str x => PyData.strOk x
  | .tup ds => pureAll ds
  | .lst ds => pureAll ds
  | _ => false
def pureAll : List D → Bool
  | [] => true
  | d :: r => d.pure && pureAll r
end
mutual
def D.dep : D → Nat
  | .tup ds => depAll ds + 1
  | .lst ds => depAll ds + 1
  | _ => 0
def depAll : List D → Nat
  | [] => 0
  | d :: r => max d.dep (depAll r)
end
mutual
theorem D.pure_py : ∀ d : D, d.pure = true → ∃ e, d.py = some e ∧ e.canLay0 = true ∧ e.depth = d.dep
  | .non, _ => ⟨_, rfl, rfl, rfl⟩
  | .int _, _ => ⟨_, rfl, rfl, rfl⟩
  | .str _, h => ⟨_, rfl, h, rfl⟩
  | .tup ds, h => by
    obtain ⟨es, h1, h2, h3⟩ := pureAll_py ds (by simpa [D.pure] using h)
    exact ⟨.tuple es, by simp [D.py, h1], by simpa [PyData.canLay0] using h2, by simp [PyData.depth, D.dep, h3]⟩
  | .lst ds, h => by
    obtain ⟨es, h1, h2, h3⟩ := pureAll_py ds (by simpa [D.pure] using h)
    exact ⟨.list es, by simp [D.py, h1], by simpa [PyData.canLay0] using h2, by simp [PyData.depth, D.dep, h3]⟩
  | .bl _, h => by simp [D.pure] at h
  | .obj _ _ _, h => by simp [D.pure] at h
theorem pureAll_py : ∀ ds : List D, pureAll ds = true → ∃ es, pyAll ds = some es ∧ PyData.canLayAll0 es = true ∧ PyData.depthAll es = depAll ds
  | [], _ => ⟨[], rfl, rfl, rfl⟩
  | d :: r, h => by
    have h' : d.pure = true ∧ pureAll r = true := by simpa [pureAll] using h
    obtain ⟨e, h1, h2, h3⟩ := D.pure_py d h'.1
    obtain ⟨es, g1, g2, g3⟩ := pureAll_py r h'.2
    exact ⟨e :: es, by simp [pyAll, h1, g1], by simp [PyData.canLayAll0, h2, g2], by simp [PyData.depthAll, depAll, h3, g3]⟩
end
mutual
theorem D.eqv_iff : ∀ (d1 d2 : D) (e1 e2 : PyData), d1.pure = true → d2.pure = true → d1.py = some e1 → d2.py = some e2 → (PyData.eqv e1 e2 = true ↔ d1 = d2)
  | .bl _, _, _, _, h, _, _, _ => by simp [D.pure] at h
  | .obj _ _ _, _, _, _, h, _, _, _ => by simp [D.pure] at h
  | .non, d2, e1, e2, _, p2, q1, q2 => by
    cases q1
    cases d2 <;> simp [D.py, D.pure] at q2 p2 <;> first | (subst q2; simp [PyData.eqv]) | (obtain ⟨_, _, rfl⟩ := q2; simp [PyData.eqv])
  | .int _, d2, e1, e2, _, p2, q1, q2 => by
    cases q1
    cases d2 <;> simp [D.py, D.pure] at q2 p2 <;> first | (subst q2; simp [PyData.eqv]) | (obtain ⟨_, _, rfl⟩ := q2; simp [PyData.eqv])
  | .str _, d2, e1, e2, _, p2, q1, q2 => by
    cases q1
    cases d2 <;> simp [D.py, D.pure] at q2 p2 <;> first | (subst q2; simp [PyData.eqv]) | (obtain ⟨_, _, rfl⟩ := q2; simp [PyData.eqv])
  | .tup ds, d2, e1, e2, p1, p2, q1, q2 => by
    simp only [D.py, Option.map_eq_some_iff] at q1
    obtain ⟨es, h1, rfl⟩ := q1
    cases d2 with
    | tup ds2 =>
      simp only [D.py, Option.map_eq_some_iff] at q2
      obtain ⟨es2, h2, rfl⟩ := q2
      have := pureAll_iff ds ds2 es es2 (by simpa [D.pure] using p1) (by simpa [D.pure] using p2) h1 h2
      simp [PyData.eqv, this]
    | lst ds2 =>
      simp only [D.py, Option.map_eq_some_iff] at q2
      obtain ⟨es2, h2, rfl⟩ := q2
      simp [PyData.eqv]
    | non => cases q2; simp [PyData.eqv]
    | int => cases q2; simp [PyData.eqv]
    | str => cases q2; simp [PyData.eqv]
    | bl => cases q2; simp [PyData.eqv]
    | obj => simp [D.pure] at p2
  | .lst ds, d2, e1, e2, p1, p2, q1, q2 => by
    simp only [D.py, Option.map_eq_some_iff] at q1
    obtain ⟨es, h1, rfl⟩ := q1
    cases d2 with
    | lst ds2 =>
      simp only [D.py, Option.map_eq_some_iff] at q2
      obtain ⟨es2, h2, rfl⟩ := q2
      have := pureAll_iff ds ds2 es es2 (by simpa [D.pure] using p1) (by simpa [D.pure] using p2) h1 h2
      simp [PyData.eqv, this]
    | tup ds2 =>
      simp only [D.py, Option.map_eq_some_iff] at q2
      obtain ⟨es2, h2, rfl⟩ := q2
      simp [PyData.eqv]
    | non => cases q2; simp [PyData.eqv]
    | int => cases q2; simp [PyData.eqv]
    | str => cases q2; simp [PyData.eqv]
    | bl => cases q2; simp [PyData.eqv]
    | obj => simp [D.pure] at p2
theorem pureAll_iff : ∀ (d1 d2 : List D) (e1 e2 : List PyData), pureAll d1 = true → pureAll d2 = true → pyAll d1 = some e1 → pyAll d2 = some e2 → (PyData.eqvAll e1 e2 = true ↔ d1 = d2)
  | [], d2, e1, e2, _, p2, q1, q2 => by
    cases q1
    cases d2 with
    | nil => cases q2; simp [PyData.eqvAll]
    | cons a r =>
      unfold pyAll at q2
      cases w1 : a.py <;> cases w2 : pyAll r <;> rw [w1, w2] at q2 <;> cases q2
      simp [PyData.eqvAll]
  | d :: ds, d2, e1, e2, p1, p2, q1, q2 => by
    have p1' : d.pure = true ∧ pureAll ds = true := by simpa [pureAll] using p1
    unfold pyAll at q1
    cases v1 : d.py <;> cases v2 : pyAll ds <;> rw [v1, v2] at q1 <;> cases q1
    cases d2 with
    | nil => cases q2; simp [PyData.eqvAll]
    | cons a r =>
      have p2' : a.pure = true ∧ pureAll r = true := by simpa [pureAll] using p2
      unfold pyAll at q2
      cases w1 : a.py <;> cases w2 : pyAll r <;> rw [w1, w2] at q2 <;> cases q2
      have g1 := D.eqv_iff d a _ _ p1'.1 p2'.1 v1 w1
      have g2 := pureAll_iff ds r _ _ p1'.2 p2'.2 v2 w2
      simp [PyData.eqvAll, g1, g2]
end
section
variable {X : Cx} {σ : Sl} {H : Hp} {Q : VK} {x y v w : V} {d d' : D}
theorem shaped_of {d : D} {e : PyData} (h : d.py = some e) (p : d.pure = true) (z : d.dep ≤ 64) : SeqAt.shaped e = true := by
  obtain ⟨e', h1, h2, h3⟩ := d.pure_py p
  rw [h] at h1
  cases h1
  unfold SeqAt.shaped
  rw [h2, h3]
  simpa using z
theorem opw_eqd {j : Nat} (hr : Room j X.A) (h1 : Rp X.K H x d) (h2 : Rp X.K H y d') (p1 : d.pure = true) (p2 : d'.pure = true) (z1 : d.dep ≤ 64) (z2 : d'.dep ≤ 64) (q : ∀ b : Bool, (b = true ↔ d = d') → Q (.bl b) H) : OpW X (compareOp .Eq) x y H Q := by
  obtain ⟨e1, a1, b1, c1⟩ := d.pure_py p1
  obtain ⟨e2, a2, b2, c2⟩ := d'.pure_py p2
  exact opw_of (op_eqD hr.units) ⟨e1, e2, Rp.py _ _ _ h1 a1, Rp.py _ _ _ h2 a2, shaped_of a1 p1 z1, shaped_of a2 p2 z2, q _ (D.eqv_iff _ _ _ _ p1 p2 a1 a2)⟩
theorem opw_ned {j : Nat} (hr : Room j X.A) (h1 : Rp X.K H x d) (h2 : Rp X.K H y d') (p1 : d.pure = true) (p2 : d'.pure = true) (z1 : d.dep ≤ 64) (z2 : d'.dep ≤ 64) (q : ∀ b : Bool, (b = true ↔ d = d') → Q (.bl (!b)) H) : OpW X (compareOp .NotEq) x y H Q := by
  obtain ⟨e1, a1, b1, c1⟩ := d.pure_py p1
  obtain ⟨e2, a2, b2, c2⟩ := d'.pure_py p2
  exact opw_of (op_neD hr.units) ⟨e1, e2, Rp.py _ _ _ h1 a1, Rp.py _ _ _ h2 a2, shaped_of a1 p1 z1, shaped_of a2 p2 z2, q _ (D.eqv_iff _ _ _ _ p1 p2 a1 a2)⟩
end
/-! ### calls that may raise, raise, try -/
section
variable {X : Cx} {e : Expr} {es : List Expr} {body : List Stmt} {st : Stmt} {σ : Sl} {H : Hp} {Q : VK} {E : Ends} {pos p : Pos} {x : Str} {W : WX}
theorem passX (tk : Takes X W) (σ : Sl) : Passes (L2.CX X.prog X.w) X fun c d H' => ∀ σ, W c d σ H' := fun pins σ H s u s' I c => tk u s' (XE.of_call I (fun _ _ _ h => h σ) c)
theorem we_callX {j k : Nat} {sp : Sp} {dvs : List V} (c : CalX X.prog X.w X.K X.mg X.base k x sp dvs) (tk : Takes X W) (hr : Room j X.A) (hk : k ≤ j) (hg : Gl X x)
    (q : QA X (e :: es) σ H fun vs H1 => sp (vs ++ dvs) H1 Q fun c d H' => ∀ σ, W c d σ H')
    (hdb : (x == ("__debug__" : Str)) = false := by decide) (he : starEach (e :: es) X.env = (false, eval e X.env) :: starEach es X.env := by rfl) (hpl : (backTo pos (starEach es X.env)).any (·.1) = false := by rfl) :
    QE X (.Call (.Name x p) (e :: es) [] pos) σ H Q := by
  obtain ⟨f, fd, ps, ds, F, hm, kp, b, d⟩ := c.ex
  exact we_of (pe_call F (hr.mono hk) hg hm kp b d (passX tk σ) pa_sem hdb he hpl) q
/-- a local name that holds a def -/
theorem we_callLX {N : List Str} {i j k : Nat} {f : Addr} {fd : FuncData} {ps : List Str} {sp : Sp} {dvs : List V} {ds : List Value} (F : FnOk X.prog X.w X.K X.mg X.base (L2.CX X.prog X.w) k f fd ps sp) (kp : PySem.W.keepIn X.K (.ref f) = true) (b : Binds X.K fd ps ds) (d : Vals dvs ds) (tk : Takes X W) (hr : Room j X.A) (hk : k ≤ j)
    (h : Var N σ x (.ref f) i) (hN : X.N = N) (hv : Vis X.env.scope x) (q : QA X (e :: es) σ H fun vs H1 => sp (vs ++ dvs) H1 Q fun c d H' => ∀ σ, W c d σ H')
    (hdb : (x == ("__debug__" : Str)) = false := by decide) (hcd : (x == ("__classdict__" : Str)) = false := by decide) (he : starEach (e :: es) X.env = (false, eval e X.env) :: starEach es X.env := by rfl) (hpl : (backTo pos (starEach es X.env)).any (·.1) = false := by rfl) :
    QE X (.Call (.Name x p) (e :: es) [] pos) σ H Q :=
  we_of (pe_callL (i := i) F (hr.mono hk) (hN ▸ h.n) hv kp b d (passX tk σ) pa_sem hdb hcd he hpl) ⟨h.v, q⟩
theorem ws_raise {C : Addr} {bmB : List Value} {B newId initId : String} {m : Str} {j : Nat} {p2 cpos : Pos} (hc : X.calm = true) (tk : Takes X W) (F : ExcBaseFacts B newId initId bmB) (c : PySem.W.excIn X.K C bmB newId = true) (gC : X.mg x = some (.ref C)) (kC : PySem.W.keepIn X.K (.ref C) = true) (r : Raises X (.ref C)) (hg : Gl X x)
    (q : W (.ref C) none σ H) (hdb : (x == ("__debug__" : Str)) = false := by decide) : QS X (.Raise (some (.Call (.Name x p) [.Constant (.str m) j p2] [] cpos)) none pos) E σ H :=
  ws_of (ps_raise hc tk (pmk_own F c gC kC r hg hdb)) q
/-- a tried body -/
def TB (X : Cx) (body : List Stmt) (W : WX) : TS := fun E σ H => ∀ (pn : List (Addr × Obj)) (xe : Value → Shared → Prop), Takes (X.tr pn xe) W → PassesOwn (model X.prog X.w) X.A X.env xe → QB (X.tr pn xe) body E σ H
theorem ws_try {h1 : ExceptHandler} {hs : List ExceptHandler} {l : List (Value × Option Nat × TSu)} (hst : X.stack = X.env :: X.outer) (hfr0 : X.env.frame = some X.env.locals) (tk : Takes X W)
    (hh : Clauses X (h1 :: hs) l) (q : TB X body (wMix X.K W E l) E σ H) : QS X (.Try body (h1 :: hs) [] [] pos) E σ H :=
  ws_of (ps_mix (tb := TB X body) hst hfr0 tk (fun W' pn xe tk' hp => ⟨fun pins s σ' H' E' I h => h pn xe tk' hp pins s I⟩) hh) q
end
end Sx

/-! Sq: comprehensions and loops over data, with one name as the target. -/
namespace Sx
open PySem PySem.Spec PyProof.Rows L2

/-- the slots when x is forgotten (σ'), and when it holds v (S v) -/
class inductive Tgt : List Str → Sl → Str → outParam Sl → outParam (V → Sl) → outParam Nat → Prop
  | z {N : List Str} {σ : Sl} {x : Str} {o : Option V} : Tgt (x :: N) (o :: σ) x (none :: σ) (fun v => some v :: σ) 0
  | s {N : List Str} {σ σ' : Sl} {S : V → Sl} {x y : Str} {o : Option V} {i : Nat} (h : Tgt N σ x σ' S i) : Tgt (y :: N) (o :: σ) x (o :: σ') (fun v => o :: S v) (i + 1)
instance (priority := high) Tgt.iz {N : List Str} {σ : Sl} {x : Str} {o : Option V} : Tgt (x :: N) (o :: σ) x (none :: σ) (fun v => some v :: σ) 0 := .z
instance (priority := low) Tgt.is {N : List Str} {σ σ' : Sl} {S : V → Sl} {x y : Str} {o : Option V} {i : Nat} [h : Tgt N σ x σ' S i] : Tgt (y :: N) (o :: σ) x (o :: σ') (fun v => o :: S v) (i + 1) := .s h
theorem Tgt.n {N : List Str} {σ σ' : Sl} {S : V → Sl} {x : Str} {i : Nat} (h : Tgt N σ x σ' S i) : N[i]? = some x := by
  induction h with
  | z => rfl
  | s _ ih => simpa using ih
theorem Tgt.w {N : List Str} {σ σ' : Sl} {S : V → Sl} {x : Str} {i : Nat} (h : Tgt N σ x σ' S i) : σ.set i none = σ' := by
  induction h with
  | z => rfl
  | s _ ih => simp [ih]
theorem Tgt.p {N : List Str} {σ σ' : Sl} {S : V → Sl} {x : Str} {i : Nat} (h : Tgt N σ x σ' S i) (v : V) : σ'.set i (some v) = S v := by
  induction h with
  | z => rfl
  | s _ ih => simp [ih]
theorem Tgt.b {N : List Str} {σ σ' : Sl} {S : V → Sl} {x : Str} {i : Nat} (h : Tgt N σ x σ' S i) (v : V) : (S v).set i none = σ' := by
  induction h with
  | z => rfl
  | s _ ih => simp [ih]
theorem bits_take (ds : List D) (g : D → Option D) : ∀ n, n ≤ ds.length → bits n (fun k => (ds[k]?).bind g) = (ds.take n).filterMap g
  | 0, _ => rfl
  | n + 1, h => by
    rw [bits_succ, bits_take ds g n (by omega), List.take_succ, List.filterMap_append]
    congr 1
    rw [List.getElem?_eq_getElem (by omega)]
    cases w : g ds[n] <;> simp [w]
theorem bits_map (ds : List D) (g : D → Option D) : bits ds.length (fun k => (ds[k]?).bind g) = ds.filterMap g := by
  rw [bits_take ds g _ (Nat.le_refl _), List.take_length]
theorem bits_rg (n : Nat) (f : Nat → D) : bits n (fun k => some (f k)) = (List.range n).map f := by
  unfold bits
  rw [List.filterMap_eq_map']
theorem fm_congr {α β : Type} {f g : α → Option β} : ∀ {l : List α}, (∀ x ∈ l, f x = g x) → l.filterMap f = l.filterMap g
  | [], _ => rfl
  | a :: r, h => by
    rw [List.filterMap_cons, List.filterMap_cons, h a (by simp), fm_congr fun x hx => h x (by simp [hx])]
theorem fm_map (ds : List D) (f : D → D) : ds.filterMap (fun d => some (f d)) = ds.map f := by
  rw [List.filterMap_eq_map']
section
variable (X : Cx)
def LCb (scope : Scope) (elt : Expr) (S : V → Sl) (H1 : Hp) (ds : List D) (f : D → D) : Prop :=
  (∀ d ∈ ds, (f d).im = true) ∧ ∀ d w H2, d ∈ ds → Same H1 H2 → Rp X.K H2 w d → BE X scope elt (S w) H2 fun y H3 => Same H2 H3 ∧ Rp X.K H3 y (f d)
def LCc (scope : Scope) (elt c : Expr) (S : V → Sl) (H1 : Hp) (ds : List D) (g : D → Option D) : Prop :=
  (∀ d ∈ ds, ∀ e, g d = some e → e.im = true) ∧ ∀ d w H2, d ∈ ds → Same H1 H2 → Rp X.K H2 w d → BT X scope c (S w) H2 fun b H3 => (b = true → BE X scope elt (S w) H3 fun y H4 => Same H2 H4 ∧ ∃ e, g d = some e ∧ Rp X.K H4 y e) ∧ (b = false → Same H2 H3 ∧ g d = none)
end
section
variable {X : Cx} {elt iter c : Expr} {scope : Scope} {N : List Str} {σ σw : Sl} {S : V → Sl} {H : Hp} {Q : VK} {x : Str} {i : Nat} {px pos rp rpos : Pos} {a b : Expr}
theorem ql_seq (h : Tgt N σ x σw S i) (hN : X.N = N) (nd : X.N.Nodup)
    (hl : ∀ s H0 C cl fp, Loc (X.blk s H0 scope (compEnvC scope cl C X.env) fp).env.scope x) (hf : ∀ s H0 C cl fp, (X.blk s H0 scope (compEnvC scope cl C X.env) fp).fn x = true ∨ (X.blk s H0 scope (compEnvC scope cl C X.env) fp).env.scope.names.lookup x = some .local)
    (q : QI X (.Name x px) iter σ H fun J H1 => ∃ (n : Nat) (G : Hp → Prop) (Y : Nat → Hp → V → Hp → Prop), Walk J n G Y ∧ n < sizeLine ∧ (∀ H', Same H1 H' → G H') ∧ ∃ F : Nat → Option D, (∀ i d, F i = some d → d.im = true) ∧
      (∀ i v H2 H3, i < n → Same H1 H2 → Y i H2 v H3 → BE X scope elt (S v) H3 fun y H5 => Same H2 H5 ∧ ∃ d, F i = some d ∧ Rp X.K H5 y d) ∧
      (∀ p H2 ys, Same H1 H2 → H1 p = none → H2 p = some (.lst ys) → RpAll X.K H2 ys (bits n F) → Q (.ref p) H2)) : QL X elt (.Name x px) iter [] scope [i] σ H Q := by
  refine ql_lc (σw := σw) (by show (wipe σ []).set i none = σw; exact h.w) (q.imp fun J H1 ⟨n, G, Y, w, hn, hG, F, him, hb, hq⟩ => ⟨n, G, Y, w, hn, hG, F, him, fun k v H2 H3 hk s2 y => ?_, hq⟩)
  intro s H0 C cl fp
  refine wg_of (pg_name (i := i) nd (by show X.N[i]? = some x; rw [hN]; exact h.n) (hl s H0 C cl fp) (hf s H0 C cl fp)) ?_
  show wipe (σw.set i (some v)) [i] = σw ∧ _
  rw [h.p]
  exact ⟨by show (S v).set i none = σw; exact h.b v, hb k v H2 H3 hk s2 y⟩
theorem ql_seqT (h : Tgt N σ x σw S i) (hN : X.N = N) (nd : X.N.Nodup)
    (hl : ∀ s H0 C cl fp, Loc (X.blk s H0 scope (compEnvC scope cl C X.env) fp).env.scope x) (hf : ∀ s H0 C cl fp, (X.blk s H0 scope (compEnvC scope cl C X.env) fp).fn x = true ∨ (X.blk s H0 scope (compEnvC scope cl C X.env) fp).env.scope.names.lookup x = some .local)
    (q : QI X (.Name x px) iter σ H fun J H1 => ∃ (n : Nat) (G : Hp → Prop) (Y : Nat → Hp → V → Hp → Prop), Walk J n G Y ∧ n < sizeLine ∧ (∀ H', Same H1 H' → G H') ∧ ∃ F : Nat → Option D, (∀ i d, F i = some d → d.im = true) ∧
      (∀ i v H2 H3, i < n → Same H1 H2 → Y i H2 v H3 → BT X scope c (S v) H3 fun b H5 => (b = true → BE X scope elt (S v) H5 fun y H6 => Same H2 H6 ∧ ∃ d, F i = some d ∧ Rp X.K H6 y d) ∧ (b = false → Same H2 H5 ∧ F i = none)) ∧
      (∀ p H2 ys, Same H1 H2 → H1 p = none → H2 p = some (.lst ys) → RpAll X.K H2 ys (bits n F) → Q (.ref p) H2)) : QL X elt (.Name x px) iter [c] scope [i] σ H Q := by
  refine ql_lcT (σw := σw) (by show (wipe σ []).set i none = σw; exact h.w) (q.imp fun J H1 ⟨n, G, Y, w, hn, hG, F, him, hb, hq⟩ => ⟨n, G, Y, w, hn, hG, F, him, fun k v H2 H3 hk s2 y => ?_, hq⟩)
  intro s H0 C cl fp
  refine wg_of (pg_name (i := i) nd (by show X.N[i]? = some x; rw [hN]; exact h.n) (hl s H0 C cl fp) (hf s H0 C cl fp)) ?_
  show wipe (σw.set i (some v)) [i] = σw ∧ _
  rw [h.p]
  exact ⟨by show (S v).set i none = σw; exact h.b v, hb k v H2 H3 hk s2 y⟩
/-- two clauses, a name each -/
theorem ql2_seq {y : Str} {py : Pos} {j : Nat} {σ1 : Sl} {S1 : V → Sl} {σi : V → Sl} {S2 : V → V → Sl} {iter1 : Expr} {ifs1 : List Expr} (h1 : Tgt N σ y σ1 S1 j) (h : Tgt N σ1 x σw S i) (h2 : ∀ v, Tgt N (S v) y (σi v) (S2 v) j) (hij : i ≠ j) (hN : X.N = N) (nd : X.N.Nodup)
    (hl : ∀ s H0 C cl fp, Loc (X.blk s H0 scope (compEnvC scope cl C X.env) fp).env.scope x) (hf : ∀ s H0 C cl fp, (X.blk s H0 scope (compEnvC scope cl C X.env) fp).fn x = true ∨ (X.blk s H0 scope (compEnvC scope cl C X.env) fp).env.scope.names.lookup x = some .local)
    (hl1 : ∀ s H0 C cl fp, Loc (X.blk s H0 scope (compEnvC scope cl C X.env) fp).env.scope y) (hf1 : ∀ s H0 C cl fp, (X.blk s H0 scope (compEnvC scope cl C X.env) fp).fn y = true ∨ (X.blk s H0 scope (compEnvC scope cl C X.env) fp).env.scope.names.lookup y = some .local)
    (q : QI X (.Name x px) iter σ H fun J H1 => ∃ (n : Nat) (G : Hp → Prop) (Y : Nat → Hp → V → Hp → Prop), Walk J n G Y ∧ (∀ H', Same H1 H' → G H') ∧ ∃ (m : Nat → Nat) (M : Nat) (F : Nat → Nat → Option D), n * M < sizeLine ∧ (∀ i, i < n → m i ≤ M) ∧ (∀ i j d, F i j = some d → d.im = true) ∧
      (∀ i v H2 H3, i < n → Same H1 H2 → Y i H2 v H3 → BI X scope (.Name y py) iter1 (S v) H3 fun J1 H5 => Same H2 H5 ∧ ∃ (G1 : Hp → Prop) (Y1 : Nat → Hp → V → Hp → Prop), Walk J1 (m i) G1 Y1 ∧ (∀ H', Same H1 H' → Kp H5 H' → G1 H') ∧
        ∀ j u H6 H7, j < m i → Same H1 H6 → Kp H5 H6 → Y1 j H6 u H7 → QT1 X scope ifs1 (S2 v u) H7 fun b H9 => (b = true → BE X scope elt (S2 v u) H9 fun z H10 => Same H6 H10 ∧ ∃ d, F i j = some d ∧ Rp X.K H10 z d) ∧ (b = false → Same H6 H9 ∧ F i j = none)) ∧
      (∀ p H2 ys, Same H1 H2 → H1 p = none → H2 p = some (.lst ys) → RpAll X.K H2 ys (flat m F n) → Q (.ref p) H2)) : QL2 X elt (.Name x px) iter (.Name y py) iter1 [] ifs1 scope [i, j] [j] σ H Q := by
  have e1 : σ1.set j none = σ1 := by rw [← h1.w, List.set_set]
  have e2 : σw.set j none = σw := by
    rw [← h.w, List.set_comm _ _ hij, e1]
  have e3 : ∀ v, (S v).set j none = S v := fun v => by rw [← h.p, List.set_comm _ _ hij, e2]
  refine ql_lc2 (σw := σw) (by show ((wipe σ []).set j none).set i none = σw; show (σ.set j none).set i none = σw; rw [h1.w, h.w]) (q.imp fun J H1 ⟨n, G, Y, w, hG, m, M, F, hz, hm, him, hb, hq⟩ => ⟨n, G, Y, w, hG, m, M, F, hz, hm, him, fun k v H2 H3 hk s2 yy => ?_, hq⟩)
  intro s H0 C cl fp
  refine wg_of (pg_name (i := i) nd (by show X.N[i]? = some x; rw [hN]; exact h.n) (hl s H0 C cl fp) (hf s H0 C cl fp)) ?_
  show wipe (σw.set i (some v)) [i, j] = σw ∧ _
  rw [h.p]
  refine ⟨by show ((S v).set j none).set i none = σw; rw [e3, h.b], ?_⟩
  intro s H0 C cl fp
  refine (hb k v H2 H3 hk s2 yy s H0 C cl fp).imp fun J1 H5 ⟨s5, G1, Y1, w1, hG1, hb1⟩ => ⟨s5, G1, Y1, w1, hG1, fun l u H6 H7 hl6 s6 k6 y6 => ?_⟩
  intro s H0 C cl fp
  refine wg_of (pg_name (i := j) nd (by show X.N[j]? = some y; rw [hN]; exact h1.n) (hl1 s H0 C cl fp) (hf1 s H0 C cl fp)) ?_
  have eS : List.set (wipe (S v) [j]) j (some u) = S2 v u := by
    show ((S v).set j none).set j (some u) = S2 v u
    rw [List.set_set, ← (h2 v).p, ← (h2 v).w, List.set_set]
  show wipe (List.set (wipe (S v) [j]) j (some u)) [j] = wipe (S v) [j] ∧ _
  rw [eS]
  exact ⟨by show (S2 v u).set j none = (S v).set j none; rw [(h2 v).b, (h2 v).w], hb1 l u H6 H7 hl6 s6 k6 y6⟩
end
section
variable {X : Cx} {elt iter c : Expr} {scope : Scope} {N : List Str} {σ σw : Sl} {S : V → Sl} {H : Hp} {Q : VK} {x : Str} {i : Nat} {px pos rp rpos : Pos} {a b : Expr}
/-- what a clause wants of its elements -/
theorem same_im {ds : List D} {f : D → D} (h : ∀ d ∈ ds, (f d).im = true) : ∀ i d, (fun k : Nat => (ds[k]?).bind fun d => some (f d)) i = some d → d.im = true := by
  intro i d e
  dsimp only at e
  cases w : ds[i]? with
  | none => rw [w] at e; cases e
  | some z => rw [w] at e; cases e; exact h z (List.mem_of_getElem? w)
theorem same_imT {ds : List D} {g : D → Option D} (h : ∀ d ∈ ds, ∀ e, g d = some e → e.im = true) : ∀ i d, (fun k : Nat => (ds[k]?).bind g) i = some d → d.im = true := by
  intro i d e
  dsimp only at e
  cases w : ds[i]? with
  | none => rw [w] at e; cases e
  | some z => rw [w] at e; exact h z (List.mem_of_getElem? w) d e
theorem ql_lct (h : Tgt N σ x σw S i) (hN : X.N = N) (nd : X.N.Nodup)
    (hl : ∀ s H0 C cl fp, Loc (X.blk s H0 scope (compEnvC scope cl C X.env) fp).env.scope x) (hf : ∀ s H0 C cl fp, (X.blk s H0 scope (compEnvC scope cl C X.env) fp).fn x = true ∨ (X.blk s H0 scope (compEnvC scope cl C X.env) fp).env.scope.names.lookup x = some .local)
    (q : QE X iter σ H fun v H1 => ∃ ds, Rp X.K H1 v (.tup ds) ∧ ds.length < sizeLine ∧ ∃ f : D → D, LCb X scope elt S H1 ds f ∧
      ∀ p H2 ys, Same H1 H2 → H1 p = none → H2 p = some (.lst ys) → RpAll X.K H2 ys (ds.map f) → Q (.ref p) H2) : QL X elt (.Name x px) iter [] scope [i] σ H Q := by
  refine ql_seq h hN nd hl hf (qi_tup (q.imp fun v H1 ⟨ds, r, hz, f, ⟨him, hb⟩, hq⟩ => ?_))
  obtain ⟨a, xs, rfl, h1, h2⟩ := r.tup_inv
  refine ⟨a, rfl, ⟨xs, h1⟩, xs.length, _, _, walk_tup (xs := xs), by rw [h2.len]; exact hz, fun H' s => Same.tupR s h1, fun k => (ds[k]?).bind fun d => some (f d), same_im him, ?_, ?_⟩
  · rintro k v H2 H3 hk s2 ⟨rfl, e⟩
    obtain ⟨d, e1, r1⟩ := (h2.to s2).get e
    intro s H0 C cl fp
    refine (hb d v H3 (List.mem_of_getElem? e1) s2 r1 s H0 C cl fp).imp fun y H5 ⟨s5, r5⟩ => ⟨s5, f d, by simp [e1], r5⟩
  · intro p H2 ys s2 hp hp2 r
    rw [h2.len, bits_map, fm_map] at r
    exact hq p H2 ys s2 hp hp2 r
theorem ql_lcl (h : Tgt N σ x σw S i) (hN : X.N = N) (nd : X.N.Nodup)
    (hl : ∀ s H0 C cl fp, Loc (X.blk s H0 scope (compEnvC scope cl C X.env) fp).env.scope x) (hf : ∀ s H0 C cl fp, (X.blk s H0 scope (compEnvC scope cl C X.env) fp).fn x = true ∨ (X.blk s H0 scope (compEnvC scope cl C X.env) fp).env.scope.names.lookup x = some .local)
    (q : QE X iter σ H fun v H1 => ∃ ds, Rp X.K H1 v (.lst ds) ∧ ds.length < sizeLine ∧ ∃ f : D → D, LCb X scope elt S H1 ds f ∧
      ∀ p H2 ys, Same H1 H2 → H1 p = none → H2 p = some (.lst ys) → RpAll X.K H2 ys (ds.map f) → Q (.ref p) H2) : QL X elt (.Name x px) iter [] scope [i] σ H Q := by
  refine ql_seq h hN nd hl hf (qi_list (q.imp fun v H1 ⟨ds, r, hz, f, ⟨him, hb⟩, hq⟩ => ?_))
  obtain ⟨a, xs, rfl, h1, h2⟩ := r.lst_inv
  refine ⟨a, rfl, ⟨xs, h1⟩, xs.length, _, _, walk_list (xs := xs), by rw [h2.len]; exact hz, fun H' s => s.seq h1, fun k => (ds[k]?).bind fun d => some (f d), same_im him, ?_, ?_⟩
  · rintro k v H2 H3 hk s2 ⟨rfl, e⟩
    obtain ⟨d, e1, r1⟩ := (h2.to s2).get e
    intro s H0 C cl fp
    refine (hb d v H3 (List.mem_of_getElem? e1) s2 r1 s H0 C cl fp).imp fun y H5 ⟨s5, r5⟩ => ⟨s5, f d, by simp [e1], r5⟩
  · intro p H2 ys s2 hp hp2 r
    rw [h2.len, bits_map, fm_map] at r
    exact hq p H2 ys s2 hp hp2 r
/-- over range(a) -/
def LRb (X : Cx) (scope : Scope) (elt : Expr) (S : V → Sl) (H1 : Hp) (lo : Int) (n : Nat) (f : Int → D) : Prop :=
  (∀ k : Nat, k < n → (f (lo + k)).im = true) ∧ ∀ (k : Nat) H2, k < n → Same H1 H2 → BE X scope elt (S (.int (lo + k))) H2 fun y H3 => Same H2 H3 ∧ Rp X.K H3 y (f (lo + k))
theorem rg_aux (h : Tgt N σ x σw S i) (hN : X.N = N) (nd : X.N.Nodup)
    (hl : ∀ s H0 C cl fp, Loc (X.blk s H0 scope (compEnvC scope cl C X.env) fp).env.scope x) (hf : ∀ s H0 C cl fp, (X.blk s H0 scope (compEnvC scope cl C X.env) fp).fn x = true ∨ (X.blk s H0 scope (compEnvC scope cl C X.env) fp).env.scope.names.lookup x = some .local)
    (q : QI X (.Name x px) iter σ H fun J H1 => ∃ (lo : Int) (n : Nat), J = Itr lo n ∧ n < sizeLine ∧ ∃ f : Int → D, LRb X scope elt S H1 lo n f ∧
      ∀ p H2 ys, Same H1 H2 → H1 p = none → H2 p = some (.lst ys) → RpAll X.K H2 ys ((List.range n).map fun k : Nat => f (lo + k)) → Q (.ref p) H2) : QL X elt (.Name x px) iter [] scope [i] σ H Q := by
  refine ql_seq h hN nd hl hf (q.imp fun J H1 ⟨lo, n, e, hz, f, ⟨him, hb⟩, hq⟩ => ?_)
  subst e
  refine ⟨n, _, _, walk_range, hz, fun _ _ => trivial, fun k => if k < n then some (f (lo + k)) else none, fun k d e => ?_, ?_, ?_⟩
  · dsimp only at e
    by_cases hk : k < n
    · rw [if_pos hk] at e; cases e; exact him k hk
    · rw [if_neg hk] at e; cases e
  · rintro k v H2 H3 hk s2 ⟨rfl, rfl⟩
    intro s H0 C cl fp
    exact (hb k H3 hk s2 s H0 C cl fp).imp fun y H5 ⟨s5, r5⟩ => ⟨s5, _, by dsimp only; rw [if_pos hk], r5⟩
  · intro p H2 ys s2 hp hp2 r
    refine hq p H2 ys s2 hp hp2 ?_
    rw [← bits_rg]
    have : bits n (fun k => some (f (lo + (k : Nat)))) = bits n (fun k => if k < n then some (f (lo + k)) else none) := by
      unfold bits
      refine fm_congr fun k hk => ?_
      rw [if_pos (List.mem_range.mp hk)]
    rw [this]
    exact r
def LRc (X : Cx) (scope : Scope) (elt c : Expr) (S : V → Sl) (H1 : Hp) (lo : Int) (n : Nat) (g : Int → Option D) : Prop :=
  (∀ k : Nat, k < n → ∀ e, g (lo + k) = some e → e.im = true) ∧ ∀ (k : Nat) H2, k < n → Same H1 H2 → BT X scope c (S (.int (lo + k))) H2 fun b H3 => (b = true → BE X scope elt (S (.int (lo + k))) H3 fun y H4 => Same H2 H4 ∧ ∃ e, g (lo + k) = some e ∧ Rp X.K H4 y e) ∧ (b = false → Same H2 H3 ∧ g (lo + k) = none)
theorem rg_auxT (h : Tgt N σ x σw S i) (hN : X.N = N) (nd : X.N.Nodup)
    (hl : ∀ s H0 C cl fp, Loc (X.blk s H0 scope (compEnvC scope cl C X.env) fp).env.scope x) (hf : ∀ s H0 C cl fp, (X.blk s H0 scope (compEnvC scope cl C X.env) fp).fn x = true ∨ (X.blk s H0 scope (compEnvC scope cl C X.env) fp).env.scope.names.lookup x = some .local)
    (q : QI X (.Name x px) iter σ H fun J H1 => ∃ (lo : Int) (n : Nat), J = Itr lo n ∧ n < sizeLine ∧ ∃ g : Int → Option D, LRc X scope elt c S H1 lo n g ∧
      ∀ p H2 ys, Same H1 H2 → H1 p = none → H2 p = some (.lst ys) → RpAll X.K H2 ys ((List.range n).filterMap fun k : Nat => g (lo + k)) → Q (.ref p) H2) : QL X elt (.Name x px) iter [c] scope [i] σ H Q := by
  refine ql_seqT h hN nd hl hf (q.imp fun J H1 ⟨lo, n, e, hz, g, ⟨him, hb⟩, hq⟩ => ?_)
  subst e
  refine ⟨n, _, _, walk_range, hz, fun _ _ => trivial, fun k => if k < n then g (lo + k) else none, fun k d e => ?_, ?_, ?_⟩
  · dsimp only at e
    by_cases hk : k < n
    · rw [if_pos hk] at e; exact him k hk d e
    · rw [if_neg hk] at e; cases e
  · rintro k v H2 H3 hk s2 ⟨rfl, rfl⟩
    intro s H0 C cl fp
    have z := hb k H3 hk s2 s H0 C cl fp
    intro pins s I
    refine thn (z pins s I) fun b s1 ⟨H5, I5, t5, f5⟩ => ⟨H5, I5, fun hb s H0 C cl fp => ?_, fun hb => ?_⟩
    · exact (t5 hb s H0 C cl fp).imp fun y H5 ⟨s5, d, e, r5⟩ => ⟨s5, d, by dsimp only; rw [if_pos hk, e], r5⟩
    · exact ⟨(f5 hb).1, by dsimp only; rw [if_pos hk]; exact (f5 hb).2⟩
  · intro p H2 ys s2 hp hp2 r
    refine hq p H2 ys s2 hp hp2 ?_
    have : (List.range n).filterMap (fun k : Nat => g (lo + k)) = bits n (fun k => if k < n then g (lo + k) else none) := by
      unfold bits
      refine fm_congr fun k hk => ?_
      rw [if_pos (List.mem_range.mp hk)]
    rw [this]
    exact r
theorem ql_lcr1 (hm : X.mg "range" = none) (hg : Gl X "range") (h : Tgt N σ x σw S i) (hN : X.N = N) (nd : X.N.Nodup)
    (hl : ∀ s H0 C cl fp, Loc (X.blk s H0 scope (compEnvC scope cl C X.env) fp).env.scope x) (hf : ∀ s H0 C cl fp, (X.blk s H0 scope (compEnvC scope cl C X.env) fp).fn x = true ∨ (X.blk s H0 scope (compEnvC scope cl C X.env) fp).env.scope.names.lookup x = some .local)
    (hs1 : starEach [a] X.env = [(false, eval a X.env)])
    (q : QE X a σ H fun v H1 => ∃ j : Int, v = .int j ∧ (-(2 ^ 62) ≤ j ∧ j < sizeLine) ∧ ∃ f : Int → D, LRb X scope elt S H1 0 j.toNat f ∧
      ∀ p H2 ys, Same H1 H2 → H1 p = none → H2 p = some (.lst ys) → RpAll X.K H2 ys ((List.range j.toNat).map fun k : Nat => f k) → Q (.ref p) H2) : QL X elt (.Name x px) (.Call (.Name "range" rp) [a] [] rpos) [] scope [i] σ H Q := by
  refine rg_aux h hN nd hl hf (qi_range1 hm hg hs1 (q.imp fun v H1 ⟨j, e, hj, f, hb, hq⟩ => ⟨j, e, ?_, 0, _, rfl, ?_, f, hb, fun p H2 ys s2 hp hp2 r => hq p H2 ys s2 hp hp2 ?_⟩))
  · have := sizeLine_eq
    omega
  · have := sizeLine_eq
    omega
  · simpa using r
theorem ql_lcr2 (hm : X.mg "range" = none) (hg : Gl X "range") (h : Tgt N σ x σw S i) (hN : X.N = N) (nd : X.N.Nodup)
    (hl : ∀ s H0 C cl fp, Loc (X.blk s H0 scope (compEnvC scope cl C X.env) fp).env.scope x) (hf : ∀ s H0 C cl fp, (X.blk s H0 scope (compEnvC scope cl C X.env) fp).fn x = true ∨ (X.blk s H0 scope (compEnvC scope cl C X.env) fp).env.scope.names.lookup x = some .local)
    (hs1 : starEach [a, b] X.env = [(false, eval a X.env), (false, eval b X.env)]) (hs2 : starEach [b] X.env = [(false, eval b X.env)])
    (q : QE X a σ H fun v H0 => QE X b σ H0 fun w H1 => ∃ i j : Int, v = .int i ∧ w = .int j ∧ (-(2 ^ 30) ≤ i ∧ i < 2 ^ 30 ∧ -(2 ^ 30) ≤ j ∧ j < 2 ^ 30 ∧ j - i < sizeLine) ∧ ∃ f : Int → D, LRb X scope elt S H1 i (j - i).toNat f ∧
      ∀ p H2 ys, Same H1 H2 → H1 p = none → H2 p = some (.lst ys) → RpAll X.K H2 ys ((List.range (j - i).toNat).map fun k : Nat => f (i + k)) → Q (.ref p) H2) : QL X elt (.Name x px) (.Call (.Name "range" rp) [a, b] [] rpos) [] scope [i] σ H Q := by
  refine rg_aux h hN nd hl hf (qi_range2 hm hg hs1 hs2 (q.imp fun v H0 q1 => q1.imp fun w H1 ⟨i, j, e1, e2, hj, f, hb, hq⟩ => ⟨i, j, e1, e2, ?_, i, _, rfl, ?_, f, hb, hq⟩))
  · omega
  · have := sizeLine_eq
    omega
theorem ql_lcr2T (hm : X.mg "range" = none) (hg : Gl X "range") (h : Tgt N σ x σw S i) (hN : X.N = N) (nd : X.N.Nodup)
    (hl : ∀ s H0 C cl fp, Loc (X.blk s H0 scope (compEnvC scope cl C X.env) fp).env.scope x) (hf : ∀ s H0 C cl fp, (X.blk s H0 scope (compEnvC scope cl C X.env) fp).fn x = true ∨ (X.blk s H0 scope (compEnvC scope cl C X.env) fp).env.scope.names.lookup x = some .local)
    (hs1 : starEach [a, b] X.env = [(false, eval a X.env), (false, eval b X.env)]) (hs2 : starEach [b] X.env = [(false, eval b X.env)])
    (q : QE X a σ H fun v H0 => QE X b σ H0 fun w H1 => ∃ i j : Int, v = .int i ∧ w = .int j ∧ (-(2 ^ 30) ≤ i ∧ i < 2 ^ 30 ∧ -(2 ^ 30) ≤ j ∧ j < 2 ^ 30 ∧ j - i < sizeLine) ∧ ∃ g : Int → Option D, LRc X scope elt c S H1 i (j - i).toNat g ∧
      ∀ p H2 ys, Same H1 H2 → H1 p = none → H2 p = some (.lst ys) → RpAll X.K H2 ys ((List.range (j - i).toNat).filterMap fun k : Nat => g (i + k)) → Q (.ref p) H2) : QL X elt (.Name x px) (.Call (.Name "range" rp) [a, b] [] rpos) [c] scope [i] σ H Q := by
  refine rg_auxT h hN nd hl hf (qi_range2 hm hg hs1 hs2 (q.imp fun v H0 q1 => q1.imp fun w H1 ⟨i, j, e1, e2, hj, f, hb, hq⟩ => ⟨i, j, e1, e2, ?_, i, _, rfl, ?_, f, hb, hq⟩))
  · omega
  · have := sizeLine_eq
    omega
theorem Tgt.q {N : List Str} {σ σ' : Sl} {S : V → Sl} {x : Str} {i : Nat} (h : Tgt N σ x σ' S i) (v : V) : σ.set i (some v) = S v := by
  rw [← h.p, ← h.w, List.set_set]
theorem ws_set1 {tg : Expr} {ifs : List Expr} {own : List (Str × Nat)} {vs : List Nat} {D : Ends} {y : Str} {j : Nat} {py spos : Pos} {σ' : Sl} (h : Tgt N σ y σ' S j) (hN : X.N = N) (hv : own.map (·.2) = vs) (hc : X.calm = true) (nd : X.N.Nodup) (hyl : X.env.scope.names.lookup y = some .local)
    (hsw : swapsWith (.ListComp elt [⟨tg, iter, ifs, 0⟩] scope pos) (some (.Name y py)) spos.line X.env = pure true) (ok : BlkOk X.N X.env.scope scope own) (hs : ∀ x, foldedSetIterable iter X.env x = pure x)
    (q : QL X elt tg iter ifs scope vs σ H fun v H1 => D.nx (S v) H1) : QS X (.Assign [.Name y py] (.ListComp elt [⟨tg, iter, ifs, 0⟩] scope pos) spos) D σ H := by
  refine ws_setLc hv hc nd (hN ▸ h.n) hyl hsw ok hs ?_
  rw [show (fun v H1 => D.nx (σ.set j (some v)) H1) = fun v H1 => D.nx (S v) H1 from by funext v H1; rw [h.q]]
  exact q
theorem ws_set2 {tg tg1 iter1 : Expr} {ifs ifs1 : List Expr} {own : List (Str × Nat)} {vs vs1 : List Nat} {D : Ends} {y : Str} {j : Nat} {py spos : Pos} {σ' : Sl} (h : Tgt N σ y σ' S j) (hN : X.N = N) (hv : own.map (·.2) = vs) (hv1 : ∀ i ∈ vs1, i ∈ own.map (·.2)) (hc : X.calm = true) (nd : X.N.Nodup) (hyl : X.env.scope.names.lookup y = some .local)
    (hsw : swapsWith (.ListComp elt [⟨tg, iter, ifs, 0⟩, ⟨tg1, iter1, ifs1, 0⟩] scope pos) (some (.Name y py)) spos.line X.env = pure true) (ok : BlkOk X.N X.env.scope scope own) (hs : ∀ x, foldedSetIterable iter X.env x = pure x) (hs1 : ∀ env x, foldedSetIterable iter1 env x = pure x)
    (q : QL2 X elt tg iter tg1 iter1 ifs ifs1 scope vs vs1 σ H fun v H1 => D.nx (S v) H1) : QS X (.Assign [.Name y py] (.ListComp elt [⟨tg, iter, ifs, 0⟩, ⟨tg1, iter1, ifs1, 0⟩] scope pos) spos) D σ H := by
  refine ws_setLc2 hv hv1 hc nd (hN ▸ h.n) hyl hsw ok hs hs1 ?_
  rw [show (fun v H1 => D.nx (σ.set j (some v)) H1) = fun v H1 => D.nx (S v) H1 from by funext v H1; rw [h.q]]
  exact q
theorem we_lc1 {ifs : List Expr} (hi : Ix N i x) (hN : X.N = N) (hc : X.calm = true) (nd : X.N.Nodup) (ok : BlkOk X.N X.env.scope scope [(x, i)]) (hs : ∀ x, foldedSetIterable iter X.env x = pure x)
    (q : QL X elt (.Name x px) iter ifs scope [i] σ H Q) : QE X (.ListComp elt [⟨.Name x px, iter, ifs, 0⟩] scope pos) σ H Q := we_lc rfl hc nd ok hs q
theorem we_lcn2 {ifs ifs1 : List Expr} {y : Str} {j : Nat} {py : Pos} {iter1 : Expr} (hi : Ix N i x) (hj : Ix N j y) (hN : X.N = N) (hc : X.calm = true) (nd : X.N.Nodup) (ok : BlkOk X.N X.env.scope scope [(x, i), (y, j)]) (hs : ∀ x, foldedSetIterable iter X.env x = pure x) (hs1 : ∀ env x, foldedSetIterable iter1 env x = pure x)
    (q : QL2 X elt (.Name x px) iter (.Name y py) iter1 ifs ifs1 scope [i, j] [j] σ H Q) : QE X (.ListComp elt [⟨.Name x px, iter, ifs, 0⟩, ⟨.Name y py, iter1, ifs1, 0⟩] scope pos) σ H Q := we_lc2 rfl (by simp) hc nd ok hs hs1 q
theorem ws_lc1 {ifs : List Expr} {D : Ends} {y : Str} {j : Nat} {py spos : Pos} {σ' : Sl} (h : Tgt N σ y σ' S j) (hi : Ix N i x) (hN : X.N = N) (hc : X.calm = true) (nd : X.N.Nodup) (hyl : X.env.scope.names.lookup y = some .local)
    (hsw : swapsWith (.ListComp elt [⟨.Name x px, iter, ifs, 0⟩] scope pos) (some (.Name y py)) spos.line X.env = pure true) (ok : BlkOk X.N X.env.scope scope [(x, i)]) (hs : ∀ x, foldedSetIterable iter X.env x = pure x)
    (q : QL X elt (.Name x px) iter ifs scope [i] σ H fun v H1 => D.nx (S v) H1) : QS X (.Assign [.Name y py] (.ListComp elt [⟨.Name x px, iter, ifs, 0⟩] scope pos) spos) D σ H := ws_set1 h hN rfl hc nd hyl hsw ok hs q
theorem ws_lcn2 {ifs ifs1 : List Expr} {z : Str} {l : Nat} {D : Ends} {y : Str} {j : Nat} {py pz spos : Pos} {σ' : Sl} {iter1 : Expr} (h : Tgt N σ z σ' S l) (hi : Ix N i x) (hj : Ix N j y) (hN : X.N = N) (hc : X.calm = true) (nd : X.N.Nodup) (hyl : X.env.scope.names.lookup z = some .local)
    (hsw : swapsWith (.ListComp elt [⟨.Name x px, iter, ifs, 0⟩, ⟨.Name y py, iter1, ifs1, 0⟩] scope pos) (some (.Name z pz)) spos.line X.env = pure true) (ok : BlkOk X.N X.env.scope scope [(x, i), (y, j)]) (hs : ∀ x, foldedSetIterable iter X.env x = pure x) (hs1 : ∀ env x, foldedSetIterable iter1 env x = pure x)
    (q : QL2 X elt (.Name x px) iter (.Name y py) iter1 ifs ifs1 scope [i, j] [j] σ H fun v H1 => D.nx (S v) H1) : QS X (.Assign [.Name z pz] (.ListComp elt [⟨.Name x px, iter, ifs, 0⟩, ⟨.Name y py, iter1, ifs1, 0⟩] scope pos) spos) D σ H := ws_set2 h hN rfl (by simp) hc nd hyl hsw ok hs hs1 q
theorem flat_take {α : Type} (L : List α) (g : α → Nat → D) (m : Nat) : ∀ n, n ≤ L.length → flat (fun _ => m) (fun i j => (L[i]?).map fun r => g r j) n = (L.take n).flatMap fun r => (List.range m).map (g r)
  | 0, _ => rfl
  | n + 1, h => by
    rw [flat_succ, flat_take L g m n (by omega), List.take_succ, List.flatMap_append, List.getElem?_eq_getElem (by omega)]
    congr 1
    show bits m (fun j => some (g L[n] j)) = _
    rw [bits_rg]
    simp
theorem flat_map {α : Type} (L : List α) (g : α → Nat → D) (m : Nat) : flat (fun _ => m) (fun i j => (L[i]?).map fun r => g r j) L.length = L.flatMap fun r => (List.range m).map (g r) := by
  rw [flat_take L g m _ (Nat.le_refl _), List.take_length]
/-! ### loops -/
variable {body : List Stmt} {E : Ends} {tg : Expr}
/-- a turn -/
def Turn (X : Cx) (tg : Expr) (body : List Stmt) (E : Ends) (Pv : Nat → Sl → Hp → Prop) (k : Nat) (v : V) (σ : Sl) (H : Hp) : Prop :=
  QG X tg v σ H fun σ2 H2 => QB X body { E with nx := Pv (k + 1), ct := Pv (k + 1), bk := E.nx } σ2 H2
theorem ws_fort (hp : PassesOwn (model X.prog X.w) X.A X.env X.xe) (hc : X.calm = true) (hfs : ∀ x, foldedSetIterable iter X.env x = pure x)
    (q : QE X iter σ H fun v H1 => ∃ ds, Rp X.K H1 v (.tup ds) ∧ ∃ Pv : Nat → Sl → Hp → Prop, Pv 0 σ H1 ∧ (∀ k σ H', Pv k σ H' → Same H1 H') ∧
      (∀ k d w σ1 H2, ds[k]? = some d → Pv k σ1 H2 → Rp X.K H2 w d → Turn X tg body E Pv k w σ1 H2) ∧ (∀ σ1 H2, Pv ds.length σ1 H2 → E.nx σ1 H2)) : QS X (.For tg iter body [] pos) E σ H := by
  refine qs_for hp hc hfs (qi_tup (q.imp fun v H1 ⟨ds, r, Pv, h0, hS, hb, hd⟩ => ?_))
  obtain ⟨a, xs, rfl, h1, h2⟩ := r.tup_inv
  refine ⟨a, rfl, ⟨xs, h1⟩, xs.length, _, _, walk_tup (xs := xs), Pv, h0, fun k σ1 H2 _ p => Same.tupR (hS _ _ _ p) h1, ?_, by rw [h2.len]; exact hd⟩
  rintro k w σ1 H2 H3 hk p ⟨rfl, e⟩
  obtain ⟨d, e1, r1⟩ := (h2.to (hS _ _ _ p)).get e
  exact hb k d w σ1 H3 e1 p r1
theorem ws_forl (hp : PassesOwn (model X.prog X.w) X.A X.env X.xe) (hc : X.calm = true) (hfs : ∀ x, foldedSetIterable iter X.env x = pure x)
    (q : QE X iter σ H fun v H1 => ∃ ds, Rp X.K H1 v (.lst ds) ∧ ∃ Pv : Nat → Sl → Hp → Prop, Pv 0 σ H1 ∧ (∀ k σ H', Pv k σ H' → Same H1 H') ∧
      (∀ k d w σ1 H2, ds[k]? = some d → Pv k σ1 H2 → Rp X.K H2 w d → Turn X tg body E Pv k w σ1 H2) ∧ (∀ σ1 H2, Pv ds.length σ1 H2 → E.nx σ1 H2)) : QS X (.For tg iter body [] pos) E σ H := by
  refine qs_for hp hc hfs (qi_list (q.imp fun v H1 ⟨ds, r, Pv, h0, hS, hb, hd⟩ => ?_))
  obtain ⟨a, xs, rfl, h1, h2⟩ := r.lst_inv
  refine ⟨a, rfl, ⟨xs, h1⟩, xs.length, _, _, walk_list (xs := xs), Pv, h0, fun k σ1 H2 _ p => (hS _ _ _ p).seq h1, ?_, by rw [h2.len]; exact hd⟩
  rintro k w σ1 H2 H3 hk p ⟨rfl, e⟩
  obtain ⟨d, e1, r1⟩ := (h2.to (hS _ _ _ p)).get e
  exact hb k d w σ1 H3 e1 p r1
theorem ws_forr1 (hm : X.mg "range" = none) (hg : Gl X "range") (hp : PassesOwn (model X.prog X.w) X.A X.env X.xe) (hc : X.calm = true) (hfs : ∀ x, foldedSetIterable (.Call (.Name "range" rp) [a] [] rpos) X.env x = pure x) (hs1 : starEach [a] X.env = [(false, eval a X.env)])
    (q : QE X a σ H fun v H1 => ∃ j : Int, v = .int j ∧ (-(2 ^ 62) ≤ j ∧ j < 2 ^ 62) ∧ ∃ Pv : Nat → Sl → Hp → Prop, Pv 0 σ H1 ∧
      (∀ (k : Nat) σ1 H2, (k : Int) < j → Pv k σ1 H2 → Turn X tg body E Pv k (.int k) σ1 H2) ∧ (∀ σ1 H2, Pv j.toNat σ1 H2 → E.nx σ1 H2)) : QS X (.For tg (.Call (.Name "range" rp) [a] [] rpos) body [] pos) E σ H := by
  refine qs_for hp hc hfs (qi_range1 hm hg hs1 (q.imp fun v H1 ⟨j, e, hj, Pv, h0, hb, hd⟩ => ⟨j, e, hj, _, _, _, walk_range, Pv, h0, fun _ _ _ _ _ => trivial, ?_, hd⟩))
  rintro k w σ1 H2 H3 hk p ⟨rfl, rfl⟩
  have := hb k σ1 H3 (by omega) p
  dsimp only
  rw [show (0 : Int) + (k : Nat) = (k : Int) by omega]
  exact this
theorem ws_forr2 (hm : X.mg "range" = none) (hg : Gl X "range") (hp : PassesOwn (model X.prog X.w) X.A X.env X.xe) (hc : X.calm = true) (hfs : ∀ x, foldedSetIterable (.Call (.Name "range" rp) [a, b] [] rpos) X.env x = pure x) (hs1 : starEach [a, b] X.env = [(false, eval a X.env), (false, eval b X.env)]) (hs2 : starEach [b] X.env = [(false, eval b X.env)])
    (q : QE X a σ H fun v H0 => QE X b σ H0 fun w H1 => ∃ i j : Int, v = .int i ∧ w = .int j ∧ (-(2 ^ 62) ≤ i ∧ i < 2 ^ 62 ∧ -(2 ^ 62) ≤ j ∧ j < 2 ^ 62) ∧ ∃ Pv : Nat → Sl → Hp → Prop, Pv 0 σ H1 ∧
      (∀ (k : Nat) σ1 H2, i + (k : Int) < j → Pv k σ1 H2 → Turn X tg body E Pv k (.int (i + k)) σ1 H2) ∧ (∀ σ1 H2, Pv (j - i).toNat σ1 H2 → E.nx σ1 H2)) : QS X (.For tg (.Call (.Name "range" rp) [a, b] [] rpos) body [] pos) E σ H := by
  refine qs_for hp hc hfs (qi_range2 hm hg hs1 hs2 (q.imp fun v H0 q1 => q1.imp fun w H1 ⟨i, j, e, e2, hj, Pv, h0, hb, hd⟩ => ⟨i, j, e, e2, hj, _, _, _, walk_range, Pv, h0, fun _ _ _ _ _ => trivial, ?_, hd⟩))
  rintro k w σ1 H2 H3 hk p ⟨rfl, rfl⟩
  exact hb k σ1 H3 (by omega) p
end
end Sx

/-! Sw: a def by what its body is to bring. -/
namespace Sx
open PySem PySem.Spec PyProof.Rows L2
section
variable {P : Program} {w : World} {K : PySem.W.Frag} {mg : Str → Option Value} {base : Heap}
theorem okS {x qual : Str} {st : Stmt} {f : Addr} {fd : FuncData} {N ps : List Str} {k : Nat} {sp : Sp} (F : Fun K x qual st f fd) (S : FnScope N ps (defScope st)) (len : ∀ vs H Q E, sp vs H Q E → vs.length = ps.length)
    (hbody : ∀ (cdv : Value) (A : Around) (outer : List Env) (s : Shared) (H : Hp) (vs : List V) (Q : VK) (E : XK), Room k (A.deeper (envOfC qual (defScope st) s.heap.objs.size f cdv)) → sp vs H Q E →
      (cxOf CX0 P w K mg base N qual (defScope st) f cdv A outer s H E).nox.N = N → (cxOf CX0 P w K mg base N qual (defScope st) f cdv A outer s H E).nox.N.Nodup →
      QB (cxOf CX0 P w K mg base N qual (defScope st) f cdv A outer s H E).nox (defBody st) { nx := fun _ H' => Q .non H', rt := Q } (start N vs) H) : FnOk P w K mg base CX0 (k + 1) f fd ps sp :=
  F.ok S len fun cdv A outer s H vs Q E hr h => ⟨_, pss_sem, hbody cdv A outer s H vs Q E hr h rfl S.nd⟩
theorem okXS {x qual : Str} {st : Stmt} {f : Addr} {fd : FuncData} {N ps : List Str} {k : Nat} {sp : Sp} (F : Fun K x qual st f fd) (S : FnScope N ps (defScope st)) (len : ∀ vs H Q E, sp vs H Q E → vs.length = ps.length)
    (hbody : ∀ (cdv : Value) (A : Around) (outer : List Env) (s : Shared) (H : Hp) (vs : List V) (Q : VK) (E : XK), Room k (A.deeper (envOfC qual (defScope st) s.heap.objs.size f cdv)) → sp vs H Q E →
      (cxOf (L2.CX P w) P w K mg base N qual (defScope st) f cdv A outer s H E).N = N → (cxOf (L2.CX P w) P w K mg base N qual (defScope st) f cdv A outer s H E).N.Nodup →
      Takes (cxOf (L2.CX P w) P w K mg base N qual (defScope st) f cdv A outer s H E) (fun c d _ H' => E c d H') →
      QB (cxOf (L2.CX P w) P w K mg base N qual (defScope st) f cdv A outer s H E) (defBody st) { nx := fun _ H' => Q .non H', rt := Q } (start N vs) H) : FnOk P w K mg base (L2.CX P w) (k + 1) f fd ps sp :=
  F.okX S len fun cdv A outer s H vs Q E hr h => ⟨_, pss_sem, hbody cdv A outer s H vs Q E hr h rfl S.nd (takes_of rfl rfl rfl rfl)⟩
end
end Sx

/-! Sv: a list that is written (a law's state), slices, comprehensions that write it. -/
namespace Sx
open PySem PySem.Spec PyProof.Rows L2

def D.isN : D → Bool
  | .non => true
  | _ => false
section
variable {X : Cx} {e hi : Expr} {σ : Sl} {H : Hp} {Q : VK} {x y v : V} {pos p2 : Pos} {d : D}
theorem we_gref {x : Str} {a : Addr} (hm : X.mg x = some (.ref a)) (hg : Gl X x) (q : Q (.ref a) H) (hdb : (x == ("__debug__" : Str)) = false := by decide) : QE X (.Name x pos) σ H Q := we_gval hm hg (v := .ref a) rfl q hdb
theorem we_sliceHi (q : QE X e σ H fun x H1 => QE X hi σ H1 fun u H2 => ∃ a xs i, x = .ref a ∧ u = .int i ∧ SqL X.K H2 a xs ∧ ∀ p H3, H2 p = none → Same H2 H3 → H3 p = some (.lst (cutV xs none (some i))) → Q (.ref p) H3) : QE X (.Subscript e (.Slice none (some hi) none p2) pos) σ H Q := by
  refine we_of (pe_slice sl_list pe_sem po_none (po_some pe_sem)) ?_
  intro pins s I
  refine thn (q pins s I) fun u s1 ⟨x, H1, I1, r1, q1⟩ => ⟨x, H1, I1, r1, ?_⟩
  show QE X hi σ H1 _
  exact q1.imp fun u H2 ⟨a, xs, i, e1, e2, hq, z⟩ => ⟨i, e2, a, xs, e1, hq, fun p hp => z p _ hp (same_new hp) upd_same⟩
theorem cut_all {xs : List V} {k : Nat} (h : xs.length ≤ k) : cutV xs none (some (k : Int)) = xs := by
  unfold cutV
  rw [HT.sIx_none, HT.sIx_nat, Nat.min_eq_right h]
  simp
theorem opw_isN (h : Rp X.K H x d) (q : Q (.bl d.isN) H) : OpW X (compareOp .Is) x .non H Q := by
  refine opw_of op_isN ⟨rfl, ?_⟩
  have : decide (x = V.non) = d.isN := by cases h <;> simp [D.isN]
  rw [this]
  exact q
end
/-! ### the state: a list of two ints -/
def St (a : Addr) (H : Hp) : Prop := ∃ s t : Int, H a = some (.lst [.int s, .int t])
/-- all but the state as it was -/
structure Ke (a : Addr) (H H' : Hp) : Prop where
  s : ∀ b o, b ≠ a → H b = some o → H' b = some o
  t : St a H'
section
variable {K : PySem.W.Frag} {a : Addr} {H H' H2 : Hp}
theorem St.lst (h : St a H) : Lst H a := ⟨_, h.choose_spec.choose_spec⟩
theorem Ke.refl (h : St a H) : Ke a H H := ⟨fun _ _ _ e => e, h⟩
theorem Ke.trans (h : Ke a H H') (g : Ke a H' H2) : Ke a H H2 := ⟨fun b o n e => g.s b o n (h.s b o n e), g.t⟩
theorem Ke.of_same (h : St a H) (s : Same H H') : Ke a H H' := ⟨fun b o _ e => s b o e, h.choose, h.choose_spec.choose, s _ _ h.choose_spec.choose_spec⟩
theorem St.same (h : St a H) (s : Same H H') : St a H' := (Ke.of_same h s).t
theorem Ke.rp {v : V} {d : D} (k : Ke a H H') (h0 : St a H) (h : Rp K H v d) (m : d.im = true) : Rp K H' v d := Rp.keep h0.lst k.s d v m h
theorem Ke.rpA {v : List V} {d : List D} (k : Ke a H H') (h0 : St a H) (h : RpAll K H v d) (m : imAll d = true) : RpAll K H' v d := RpAll.keep h0.lst k.s d v m h
end
/-- what _law_take promises -/
def spTake : Sp := fun vs H Q _ => ∃ (a : Addr) (m : Int), vs = [.ref a, .int m] ∧ (0 < m ∧ m < 1073741824) ∧ St a H ∧ ∀ (r : Int) H', 0 ≤ r → r < m → Ke a H H' → Q (.int r) H'
section
variable {X : Cx} {elt b : Expr} {scope : Scope} {N : List Str} {σ σw : Sl} {S : V → Sl} {H : Hp} {Q : VK} {x : Str} {i : Nat} {px pos rp rpos : Pos} {a : Expr}
/-- [elt for x in range(a)], elt writes the state at A -/
theorem ql_st (hm : X.mg "range" = none) (hg : Gl X "range") (h : Tgt N σ x σw S i) (hN : X.N = N) (nd : X.N.Nodup)
    (hl : ∀ s H0 C cl fp, Loc (X.blk s H0 scope (compEnvC scope cl C X.env) fp).env.scope x) (hf : ∀ s H0 C cl fp, (X.blk s H0 scope (compEnvC scope cl C X.env) fp).fn x = true ∨ (X.blk s H0 scope (compEnvC scope cl C X.env) fp).env.scope.names.lookup x = some .local)
    (hs1 : starEach [a] X.env = [(false, eval a X.env)])
    (q : QE X a σ H fun v H1 => ∃ j : Int, v = .int j ∧ (-(2 ^ 62) ≤ j ∧ j < sizeLine) ∧ ∃ (A : Addr) (p : D → Prop), St A H1 ∧ (∀ d, p d → d.im = true) ∧
      (∀ (k : Nat) H2, (k : Int) < j → Ke A H1 H2 → BE X scope elt (S (.int k)) H2 fun y H3 => Ke A H2 H3 ∧ ∃ d, p d ∧ Rp X.K H3 y d) ∧
      ∀ P H2 ys ds, Ke A H1 H2 → H1 P = none → H2 P = some (.lst ys) → RpAll X.K H2 ys ds → ds.length = j.toNat → (∀ d ∈ ds, p d) → Q (.ref P) H2) : QL X elt (.Name x px) (.Call (.Name "range" rp) [a] [] rpos) [] scope [i] σ H Q := by
  refine qi_range1 hm hg hs1 (q.imp fun v H1 ⟨j, e, hj, A, p, hA, him, hb, hq⟩ => ⟨j, e, by have := sizeLine_eq; omega, ?_⟩)
  intro Dl hD
  have nA : A ≠ Dl := by
    obtain ⟨s, t, z⟩ := hA
    exact ne_of_none z hD
  have hw : wipe σ [i] = σw := by show (wipe σ []).set i none = σw; exact h.w
  refine lc_it walk_range (fun k H => Ke A H1 H ∧ ∃ acc ds, H Dl = some (.lst acc) ∧ RpAll X.K H acc ds ∧ ds.length = k ∧ ∀ d ∈ ds, p d) ⟨Ke.of_same hA (same_new hD), [], [], upd_same, .nil, rfl, by simp⟩ (fun _ _ _ _ => trivial) ?_ ?_
  · rintro k v H2 H3 hk ⟨k2, acc, ds, e1, r1, l1, p1⟩ ⟨rfl, rfl⟩
    rw [hw]
    intro s H0 C cl fp
    refine wg_of (pg_name (i := i) nd (by show X.N[i]? = some x; rw [hN]; exact h.n) (hl s H0 C cl fp) (hf s H0 C cl fp)) ?_
    show wipe (σw.set i (some _)) [i] = σw ∧ _
    rw [h.p]
    refine ⟨by show (S _).set i none = σw; exact h.b _, ?_⟩
    delta QT1 tYes
    dsimp only
    rw [if_pos rfl, show (0 : Int) + (k : Nat) = (k : Int) by omega]
    intro s H0 C cl fp
    refine (hb k H3 (by omega) k2 s H0 C cl fp).imp fun y H4 ⟨k4, d, pd, rd⟩ => ?_
    have e4 : H4 Dl = some (.lst acc) := k4.s _ _ nA.symm e1
    have im : imAll ds = true := imAll_iff.mpr fun d hd => him d (p1 d hd)
    have r4 := k4.rpA k2.t r1 im
    have hk' : ∀ b o, b ≠ Dl → H4 b = some o → (upd H4 Dl (.lst (acc ++ [y]))) b = some o := fun b o n q => by rw [upd_ne n]; exact q
    refine ⟨acc, e4, by rw [r1.len, l1]; omega, ⟨fun b o n z => ?_, ?_⟩, acc ++ [y], ds ++ [d], upd_same, ?_, by simp [l1], ?_⟩
    · rw [upd_ne (ne_of_none z hD)]
      exact k4.s _ _ n (k2.s _ _ n z)
    · obtain ⟨s, t, z⟩ := k4.t
      exact ⟨s, t, by rw [upd_ne nA]; exact z⟩
    · exact (RpAll.keep ⟨acc, e4⟩ hk' _ _ im r4).snoc (Rp.keep ⟨acc, e4⟩ hk' _ _ (him d pd) rd)
    · intro z hz
      rw [List.mem_append] at hz
      rcases hz with hz | hz
      · exact p1 z hz
      · simp at hz
        rw [hz]
        exact pd
  · rintro H2 ⟨k2, acc, ds, e1, r1, l1, p1⟩
    exact hq Dl H2 acc ds k2 hD e1 r1 l1 p1
end
/-! ### the suites of a try -/
def SU (X : Cx) (su : List Stmt) : TSu := fun a k d E σ H => ∀ (o : Obj) (pn : List (Addr × Obj)), Zc k d o → (∃ vs, o.data = .fields vs) → QB (X.suite a ((a, o) :: pn)) su E σ H
theorem su_sem {X : Cx} {su : List Stmt} : ∀ (a : Addr) (o : Obj) (k : Value) (d : Option Addr) (pn : List (Addr × Obj)), Zc k d o → (∃ vs, o.data = .fields vs) → PSs (X.suite a ((a, o) :: pn)) su (SU X su a k d) :=
  fun a o k d pn hz hf => ⟨fun pins s σ H E I h => h o pn hz hf pins s I⟩
end Sx

/-! So: own classes: fields, methods, instances made, operators, own errors with an own __init__. -/
namespace Sx
open PySem PySem.Spec PyProof.Rows L2

/-- a method of the class at C, as its callers see it -/
structure MetX (P : Program) (w : World) (K : PySem.W.Frag) (mg : Str → Option Value) (base : Heap) (CX : CXT) (k : Nat) (C : Addr) (m : Str) (sp : Sp) : Prop where
  ex : ∃ (f : Addr) (fd : FuncData) (ps : List Str), FnOk P w K mg base CX k f fd ps sp ∧ Meth K C m f ∧ Binds K fd ps []
/-- the class at C, made by its name x; dvs: defaults -/
structure MakX (P : Program) (w : World) (K : PySem.W.Frag) (mg : Str → Option Value) (base : Heap) (CX : CXT) (k : Nat) (x : Str) (C : Addr) (sp : Sp) : Prop where
  at_ : mg x = some (.ref C)
  ex : ∃ (f : Addr) (fd : FuncData) (ps : List Str), FnOk P w K mg base CX k f fd ps sp ∧ Mk K C f ∧ Binds K fd ps []
/-- the same with the last parameter's default -/
structure MakD (P : Program) (w : World) (K : PySem.W.Frag) (mg : Str → Option Value) (base : Heap) (CX : CXT) (k : Nat) (x : Str) (C : Addr) (sp : Sp) (dvs : List V) : Prop where
  at_ : mg x = some (.ref C)
  ex : ∃ (f : Addr) (fd : FuncData) (ps : List Str) (ds : List Value), FnOk P w K mg base CX k f fd ps sp ∧ Mk K C f ∧ Binds K fd ps ds ∧ Vals dvs ds

section
variable (X : Cx)
def FldW (x : V) (f : Str) (H : Hp) (Q : VK) : Prop := ∃ a C dx fs v, x = .ref a ∧ H a = some (.ins C dx fs) ∧ Cls X.K C ∧ NoAttr X.K C f ∧ fs.lookup f = some v ∧ Q v H
end
section
variable {K : PySem.W.Frag} {H : Hp}
theorem RpAll.look : ∀ {fs : List (Str × V)} {ds : List D} {f : Str} {d : D}, RpAll K H (fs.map (·.2)) ds → ((fs.map (·.1)).zip ds).lookup f = some d → ∃ v, fs.lookup f = some v ∧ Rp K H v d
  | [], _, _, _, _, e => by simp at e
  | (n, u) :: r, ds, f, d, h, e => by
    cases h with
    | @cons _ _ d0 ds0 h1 h2 =>
      rw [List.map_cons, List.zip_cons_cons, List.lookup_cons] at e
      rw [List.lookup_cons]
      by_cases hf : f == n
      · rw [hf] at e ⊢
        cases e
        exact ⟨u, rfl, h1⟩
      · rw [Bool.eq_false_iff.mpr hf] at e ⊢
        exact RpAll.look h2 e
end
section
variable {X : Cx} {e o : Expr} {es : List Expr} {σ : Sl} {H : Hp} {Q : VK} {x y : V} {f m : Str} {pos p apos : Pos} {C : Addr} {ns : List Str} {ds : List D} {d : D} {E : Ends} {W : WX} {j k : Nat} {sp : Sp}
theorem we_fld (hb : attributeBase e f X.env (eval e X.env) = eval e X.env) (q : QE X e σ H fun x H1 => FldW X x f H1 Q) : QE X (.Attribute e f pos) σ H Q := we_of (pe_fld pe_sem hb) q
theorem fldw_obj (c : Cls X.K C) (n : NoAttr X.K C f) (h : Rp X.K H x (.obj C ns ds)) (e : (ns.zip ds).lookup f = some d) (q : ∀ v, Rp X.K H v d → Q v H) : FldW X x f H Q := by
  cases h with
  | @obj a _ dx fs _ _ h1 h2 h3 =>
    subst h2
    obtain ⟨v, h4, h5⟩ := h3.look e
    exact ⟨a, C, dx, fs, v, rfl, h1, c, n, h4, q v h5⟩
theorem fldw_raw {a dx : Addr} {fs : List (Str × V)} {v : V} (c : Cls X.K C) (n : NoAttr X.K C f) (h : H a = some (.ins C dx fs)) (e : fs.lookup f = some v) (q : Q v H) : FldW X (.ref a) f H Q := ⟨a, C, dx, fs, v, rfl, h, c, n, e, q⟩
theorem ws_fld {value : Expr} {pos' : Pos} (hs : swapsWith value (some (.Attribute o f pos')) pos.line X.env = pure false)
    (q : QE X value σ H fun y H1 => QE X o σ H1 fun x H2 => ∃ a C dx fs, x = .ref a ∧ H2 a = some (.ins C dx fs) ∧ Cls X.K C ∧ NoAttr X.K C f ∧ fs.length < 1000 ∧ E.nx σ (upd H2 a (.ins C dx (putF f y fs)))) : QS X (.Assign [.Attribute o f pos'] value pos) E σ H :=
  ws_of (ps_fld pe_sem pe_sem hs) q
/-! methods -/
theorem we_meth {pl : Sem Bool} (c : Cls X.K C) (mt : MetX X.prog X.w X.K X.mg X.base CX0 k C m sp) (hr : Room j X.A) (hk : k ≤ j)
    (q : QE X o σ H fun x H1 => ∃ a dx fs, x = .ref a ∧ H1 a = some (.ins C dx fs) ∧ fs.lookup m = none ∧ QA X (e :: es) σ H1 fun vs H2 => sp (x :: vs) H2 Q L2.E0)
    (hst : starEach (e :: es) X.env = (false, eval e X.env) :: starEach es X.env) (hpl : (backTo pos (starEach es X.env)).any (·.1) = false)
    (ht : eval (.Call (.Attribute o m apos) (e :: es) [] pos) X.env = (do
      let ov ← eval o X.env
      standAt apos.atName
      let (f, first) ← holding [ov] (getMethod ov m pl)
      callWith pos f first (backTo pos (starEach (e :: es) X.env)) (backToKw pos (keywordEach [] X.env)))) : QE X (.Call (.Attribute o m apos) (e :: es) [] pos) σ H Q := by
  obtain ⟨f, fd, ps, F, hm, b⟩ := mt.ex
  refine we_of (pe_meth pe_sem c hm F (hr.mono hk) b .nil pass0 pa_sem hst hpl ht) ?_
  refine q.imp fun x H1 ⟨a, dx, fs, e1, e2, e3, z⟩ => ⟨a, dx, fs, e1, e2, e3, ?_⟩
  intro ps2 pins s I
  refine thn (z ps2 pins s I) fun us s1 ⟨vs, H2, I2, r, w⟩ => ⟨vs, H2, I2, r, by dsimp only; rw [List.append_nil]; exact w⟩
theorem we_methX {pl : Sem Bool} (c : Cls X.K C) (mt : MetX X.prog X.w X.K X.mg X.base (L2.CX X.prog X.w) k C m sp) (tk : Takes X W) (hr : Room j X.A) (hk : k ≤ j)
    (q : QE X o σ H fun x H1 => ∃ a dx fs, x = .ref a ∧ H1 a = some (.ins C dx fs) ∧ fs.lookup m = none ∧ QA X (e :: es) σ H1 fun vs H2 => sp (x :: vs) H2 Q fun c d H' => ∀ σ, W c d σ H')
    (hst : starEach (e :: es) X.env = (false, eval e X.env) :: starEach es X.env) (hpl : (backTo pos (starEach es X.env)).any (·.1) = false)
    (ht : eval (.Call (.Attribute o m apos) (e :: es) [] pos) X.env = (do
      let ov ← eval o X.env
      standAt apos.atName
      let (f, first) ← holding [ov] (getMethod ov m pl)
      callWith pos f first (backTo pos (starEach (e :: es) X.env)) (backToKw pos (keywordEach [] X.env)))) : QE X (.Call (.Attribute o m apos) (e :: es) [] pos) σ H Q := by
  obtain ⟨f, fd, ps, F, hm, b⟩ := mt.ex
  refine we_of (pe_meth pe_sem c hm F (hr.mono hk) b .nil (passX tk σ) pa_sem hst hpl ht) ?_
  refine q.imp fun x H1 ⟨a, dx, fs, e1, e2, e3, z⟩ => ⟨a, dx, fs, e1, e2, e3, ?_⟩
  intro ps2 pins s I
  refine thn (z ps2 pins s I) fun us s1 ⟨vs, H2, I2, r, w⟩ => ⟨vs, H2, I2, r, by dsimp only; rw [List.append_nil]; exact w⟩
theorem we_meth0 {pl : Sem Bool} (c : Cls X.K C) (mt : MetX X.prog X.w X.K X.mg X.base CX0 k C m sp) (hr : Room j X.A) (hk : k ≤ j)
    (q : QE X o σ H fun x H1 => ∃ a dx fs, x = .ref a ∧ H1 a = some (.ins C dx fs) ∧ fs.lookup m = none ∧ sp [x] H1 Q L2.E0)
    (ht : eval (.Call (.Attribute o m apos) [] [] pos) X.env = (do
      let ov ← eval o X.env
      standAt apos.atName
      let (f, first) ← holding [ov] (getMethod ov m pl)
      callWith pos f first (backTo pos (starEach [] X.env)) (backToKw pos (keywordEach [] X.env)))) : QE X (.Call (.Attribute o m apos) [] [] pos) σ H Q := by
  obtain ⟨f, fd, ps, F, hm, b⟩ := mt.ex
  exact we_of (pe_meth0 pe_sem c hm F (hr.mono hk) b .nil pass0 ht) q
/-! an instance made -/
theorem we_make (mk : MakX X.prog X.w X.K X.mg X.base (L2.CX X.prog X.w) k m C sp) (tk : Takes X W) (hr : Room j X.A) (hk : k + 1 ≤ j) (hg : Gl X m)
    (q : QA X (e :: es) σ H fun vs H1 => ∀ x dx H2, H1 x = none → Same H1 H2 → H2 x = some (.ins C dx []) → H2 dx = some (.own x) → dx ≠ x → sp (.ref x :: vs) H2 (fun v H3 => v = .non ∧ Q (.ref x) H3) fun c d H' => ∀ σ, W c d σ H')
    (hdb : (m == ("__debug__" : Str)) = false := by decide) (he : starEach (e :: es) X.env = (false, eval e X.env) :: starEach es X.env := by rfl) (hpl : (backTo pos (starEach es X.env)).any (·.1) = false := by rfl) : QE X (.Call (.Name m p) (e :: es) [] pos) σ H Q := by
  obtain ⟨f, fd, ps, F, M, b⟩ := mk.ex
  refine we_of (pe_make M F (hr.mono hk) hg mk.at_ b .nil (passX tk σ) pa_sem hdb he hpl) ?_
  intro ps2 pins s I
  refine thn (q ps2 pins s I) fun us s1 ⟨vs, H1, I1, r, z⟩ => ⟨vs, H1, I1, r, fun x dx hx hd hne => ?_⟩
  rw [List.append_nil]
  have s1' : Same H1 (upd H1 dx (.own x)) := same_new hd
  have hx2 : (upd H1 dx (.own x)) x = none := by rw [upd_ne hne.symm]; exact hx
  exact z x dx _ hx (s1'.trans (same_new hx2)) upd_same (by rw [upd_ne hne]; exact upd_same) hne
theorem we_makeD {dvs : List V} (mk : MakD X.prog X.w X.K X.mg X.base (L2.CX X.prog X.w) k m C sp dvs) (tk : Takes X W) (hr : Room j X.A) (hk : k + 1 ≤ j) (hg : Gl X m)
    (q : QA X (e :: es) σ H fun vs H1 => ∀ x dx H2, H1 x = none → Same H1 H2 → H2 x = some (.ins C dx []) → H2 dx = some (.own x) → dx ≠ x → sp (.ref x :: (vs ++ dvs)) H2 (fun v H3 => v = .non ∧ Q (.ref x) H3) fun c d H' => ∀ σ, W c d σ H')
    (hdb : (m == ("__debug__" : Str)) = false := by decide) (he : starEach (e :: es) X.env = (false, eval e X.env) :: starEach es X.env := by rfl) (hpl : (backTo pos (starEach es X.env)).any (·.1) = false := by rfl) : QE X (.Call (.Name m p) (e :: es) [] pos) σ H Q := by
  obtain ⟨f, fd, ps, ds, F, M, b, hd0⟩ := mk.ex
  refine we_of (pe_make M F (hr.mono hk) hg mk.at_ b hd0 (passX tk σ) pa_sem hdb he hpl) ?_
  intro ps2 pins s I
  refine thn (q ps2 pins s I) fun us s1 ⟨vs, H1, I1, r, z⟩ => ⟨vs, H1, I1, r, fun x dx hx hd hne => ?_⟩
  have s1' : Same H1 (upd H1 dx (.own x)) := same_new hd
  have hx2 : (upd H1 dx (.own x)) x = none := by rw [upd_ne hne.symm]; exact hx
  exact z x dx _ hx (s1'.trans (same_new hx2)) upd_same (by rw [upd_ne hne]; exact upd_same) hne
end
/-! operators -/
section
variable {X : Cx} {σ : Sl} {H : Hp} {Q : VK} {x y : V} {C : Addr} {W : WX} {j k : Nat} {sp : Sp} {a : Addr} {dx : Addr} {fs : List (Str × V)}
theorem inst_at {pins : List (Addr × Obj)} {s : Shared} (I : Inv X pins σ H s) (h : H a = some (.ins C dx fs)) : ∃ ox od, PySem.W.InstAt s.heap a ox C od := by
  obtain ⟨mA, J, _⟩ := ins_get I.hok h
  obtain ⟨od, J, _⟩ := J.look
  exact ⟨_, _, J⟩
/-- x op y by the own method, y of the same class -/
theorem opw_own {op : Operator} (mt : MetX X.prog X.w X.K X.mg X.base (L2.CX X.prog X.w) k C (PySem.dunder op.info.2) sp) (hc : PySem.W.selfFirst X.K C = true) (tk : Takes X W) (hr : Room j X.A) (hk : k ≤ j) {b dy : Addr} {gs : List (Str × V)}
    (ha : H a = some (.ins C dx fs)) (hb : H b = some (.ins C dy gs)) (q : sp [.ref a, .ref b] H Q fun c d H' => ∀ σ, W c d σ H') : OpW X (binaryOp op) (.ref a) (.ref b) H Q := by
  obtain ⟨f, fd, ps, F, hm, bd⟩ := mt.ex
  intro pins s σ u v I ru rv
  cases (show u = Value.ref a from ru)
  cases (show v = Value.ref b from rv)
  obtain ⟨ox, od, J⟩ := inst_at I ha
  obtain ⟨oy, od', J'⟩ := inst_at I hb
  obtain ⟨m, hF⟩ := I.fr
  refine PySem.W.binop_K hF I.ok.mod.kin J J'.type hc hm.at_ hm.fn ?_
  refine wpAny_mono (run_fn (us := [.ref a, .ref b]) (vs := [.ref a, .ref b]) F (hr.mono hk) bd .nil (passX tk σ) I (.cons rfl (.cons rfl .nil)) q) (fun w s' z => ?_) fun _ _ x => x
  obtain ⟨z', H', I', rz, qz⟩ := z
  exact SlX.cmpback rz ⟨z', H', I', rz, qz⟩
/-- .. y of a built-in type T -/
theorem opw_ownT {op : Operator} {T : String} {fo ro rc : Option Value} (mt : MetX X.prog X.w X.K X.mg X.base (L2.CX X.prog X.w) k C (PySem.dunder op.info.2) sp) (hc : PySem.W.selfFirst X.K C = true) (tk : Takes X W) (hr : Room j X.A) (hk : k ≤ j)
    (hrr : PySem.W.findIn X.K (.ref C) (PySem.dunderR op.info.2) = some rc) (hp : rc = none ∨ ∃ g : Addr, rc = some (.ref g)) (h1 : PySem.W.findIn X.K (.type T) (PySem.dunder op.info.2) = some fo) (h2 : PySem.W.findIn X.K (.type T) (PySem.dunderR op.info.2) = some ro) (hsub : PySem.W.subIn X.K (.type T) (.ref C) = some false)
    (hty : ∀ u, RelV y u → typeOf u = pure (.type T)) (ha : H a = some (.ins C dx fs)) (q : sp [.ref a, y] H Q fun c d H' => ∀ σ, W c d σ H') : OpW X (binaryOp op) (.ref a) y H Q := by
  obtain ⟨f, fd, ps, F, hm, bd⟩ := mt.ex
  intro pins s σ u v I ru rv
  cases (show u = Value.ref a from ru)
  obtain ⟨ox, od, J⟩ := inst_at I ha
  obtain ⟨m, hF⟩ := I.fr
  refine PySem.W.ksp_binT hF I.ok.mod.kin J (hty v rv) hc hm.at_ hm.fn hrr hp h1 h2 hsub ?_
  refine wpAny_mono (run_fn (us := [.ref a, v]) (vs := [.ref a, y]) F (hr.mono hk) bd .nil (passX tk σ) I (.cons rfl (.cons rv .nil)) q) (fun w s' z => ?_) fun _ _ x => x
  obtain ⟨z', H', I', rz, qz⟩ := z
  exact SlX.cmpback rz ⟨z', H', I', rz, qz⟩
/-- the class of a datum, looked up in a heap -/
theorem looks_ty {d : D} {n : String} {v : V} {u : Value} {pins : List (Addr × Obj)} {s : Shared} (h : Rp X.K H v d) (e : d.ty = some n) (I : Inv X pins σ H s) (r : RelV v u) : PySem.W.Looks (model X.prog X.w) s.heap (typeOf u) (.type n) := by
  cases h with
  | non => cases e; cases r; exact PySem.W.Looks.of_pure rfl
  | bl b => cases e; cases r; exact PySem.W.Looks.of_pure rfl
  | int i => cases e; obtain ⟨t, rfl⟩ := r; exact PySem.W.Looks.of_pure rfl
  | str x => cases e; obtain ⟨t, rfl⟩ := r; exact PySem.W.Looks.of_pure rfl
  | tup h1 h2 =>
    cases e
    cases r
    obtain ⟨its, rv, ⟨o, ho, hc, _⟩, hz⟩ := I.tuple h1
    exact fun A Q E s k q => wpAny_typeOf_ref (k _ _ ho) (by rw [hc]; exact q)
  | lst h1 h2 =>
    cases e
    cases r
    obtain ⟨its, rv, ⟨o, n0, ho, hc, _⟩, hz⟩ := I.list h1
    exact fun A Q E s k q => wpAny_typeOf_ref (k _ _ ho) (by rw [hc]; exact q)
  | obj _ _ _ => cases e
open PySem.W in
/-- an own operator, the second thing of a built-in class that the first is asked ahead of -/
theorem bin_mixed {prog : Program} {w : World} {A : Around} {EE : Value → Shared → Prop} {s : Shared} {KK : Frag} {xx CC LL ff : Addr} {hh0 : Heap} {mm : Str → Option Value} {ox : Obj} {od : Option Obj} {T : String} {op : Operator} {b : Value} {fo ro rc : Option Value} {QQ : Value → Shared → Prop}
    (Fr0 : Fr hh0 LL s.heap mm) (KI : KK.In hh0) (I : InstAt s.heap xx ox CC od) (tb : Looks (model prog w) s.heap (typeOf b) (.type T)) (first : selfFirst KK CC = true)
    (at_ : findIn KK (.ref CC) (PySem.dunder op.info.2) = some (some (.ref ff))) (fn : isFn KK (.ref ff) = true) (right : findIn KK (.ref CC) (dunderR op.info.2) = some rc) (rp : rc = none ∨ ∃ g : Addr, rc = some (.ref g))
    (f1 : findIn KK (.type T) (PySem.dunder op.info.2) = some fo) (f2 : findIn KK (.type T) (dunderR op.info.2) = some ro) (below : subIn KK (.type T) (.ref CC) = some false)
    (go : wpAny (model prog w) A (call (.ref ff) [.ref xx, b]) (PySem.W.CmpBack QQ) EE s) : wpAny (model prog w) A (binaryOp op (.ref xx) b) QQ EE s := by
  have now := KI.keeps Fr0.keep
  obtain ⟨cd, rest, hcd, hm⟩ := ksp_first first
  rcases opi : op.info with ⟨sg, nm⟩
  rw [opi] at at_ right f1 f2
  dsimp only at at_ right f1 f2
  have tried := ksp_try now I at_ fn go
  obtain ⟨hp, g, d, tt, os⟩ := s
  have l1 : Looks (model prog w) hp (typeOf (.ref xx)) (.ref CC) := I.type
  have l3 : Looks (model prog w) hp (fillsNumberSlot (.ref CC) nm) true := fills_K now hcd hm at_
  have l4 : Looks (model prog w) hp (fillsNumberSlot (.type T) nm) ((fo.isSome && !isSeqSlot fo) || (ro.isSome && !isSeqSlot ro)) := ksp_fillsT now f1 f2
  have l5 : Looks (model prog w) hp (isSubtype (.type T) (.ref CC)) false := looks_subIn now below
  have l6 : Looks (model prog w) hp (numberSlotInPython (.ref CC) nm) true := ksp_inPy now at_ right rp
  have l7 : Looks (model prog w) hp (numberSlotInPython (.type T) nm) false := Looks.of_pure rfl
  have l8 : Looks (model prog w) hp (typeLookup (.type T) (dunderR nm)) ro := looks_findIn now f2
  generalize ((fo.isSome && !isSeqSlot fo) || (ro.isSome && !isSeqSlot ro)) = rgt at l4
  have other : (Value.ref CC == Value.type T) = false := Bool.eq_false_iff.mpr fun z => nomatch (beq_iff_eq.mp z)
  simp only [binaryOp, opi]
  refine wpAny_holding (wpAny_bind ?_)
  unfold binaryOp1
  refine wpAny_bind (l1.at (wpAny_bind (tb.at (wpAny_bind (l3.at ?_)))))
  simp only [other, Bool.false_eq_true, if_false]
  cases rgt <;>
  · ksp_lk
    refine wpAny_mono tried (fun r s' z => ?_) fun _ _ y => y
    obtain ⟨v, rfl, hv⟩ := z
    ksp_lk
    exact hv
theorem opw_ownD {op : Operator} {d : D} {n : String} {fo ro rc : Option Value} (mt : MetX X.prog X.w X.K X.mg X.base (L2.CX X.prog X.w) k C (PySem.dunder op.info.2) sp) (hc : PySem.W.selfFirst X.K C = true) (tk : Takes X W) (hr : Room j X.A) (hk : k ≤ j)
    (hrr : PySem.W.findIn X.K (.ref C) (PySem.dunderR op.info.2) = some rc) (hp : rc = none ∨ ∃ g : Addr, rc = some (.ref g)) (h1 : PySem.W.findIn X.K (.type n) (PySem.dunder op.info.2) = some fo) (h2 : PySem.W.findIn X.K (.type n) (PySem.dunderR op.info.2) = some ro) (hsub : PySem.W.subIn X.K (.type n) (.ref C) = some false)
    (rp : Rp X.K H y d) (ed : d.ty = some n) (ha : H a = some (.ins C dx fs)) (q : sp [.ref a, y] H Q fun c d H' => ∀ σ, W c d σ H') : OpW X (binaryOp op) (.ref a) y H Q := by
  obtain ⟨f, fd, ps, F, hm, bd⟩ := mt.ex
  intro pins s σ u v I ru rv
  cases (show u = Value.ref a from ru)
  obtain ⟨ox, od, J⟩ := inst_at I ha
  obtain ⟨m, hF⟩ := I.fr
  refine bin_mixed hF I.ok.mod.kin J (looks_ty rp ed I rv) hc hm.at_ hm.fn hrr hp h1 h2 hsub ?_
  refine wpAny_mono (run_fn (us := [.ref a, v]) (vs := [.ref a, y]) F (hr.mono hk) bd .nil (passX tk σ) I (.cons rfl (.cons rv .nil)) q) (fun w s' z => ?_) fun _ _ x => x
  obtain ⟨z', H', I', rz, qz⟩ := z
  exact SlX.cmpback rz ⟨z', H', I', rz, qz⟩
theorem callw_len_st {xs : List V} (h : SqT X.K H a xs) (q : Q (.int xs.length) H) : CallW X (.builtin "len") [.ref a] H Q := callw_of call_len ⟨.ref a, xs.length, rfl, .inr ⟨xs, h, rfl⟩, q⟩
theorem unw_own (mt : MetX X.prog X.w X.K X.mg X.base (L2.CX X.prog X.w) k C "__neg__" sp) (tk : Takes X W) (hr : Room j X.A) (hk : k ≤ j)
    (ha : H a = some (.ins C dx fs)) (q : sp [.ref a] H Q fun c d H' => ∀ σ, W c d σ H') : UnW X (unaryOp .USub) (.ref a) H Q := by
  obtain ⟨f, fd, ps, F, hm, bd⟩ := mt.ex
  intro pins s σ u I ru
  cases (show u = Value.ref a from ru)
  obtain ⟨ox, od, J⟩ := inst_at I ha
  obtain ⟨m, hF⟩ := I.fr
  refine PySem.W.ksp_neg hF I.ok.mod.kin J hm.at_ hm.fn ?_
  exact run_fn (us := [.ref a]) (vs := [.ref a]) F (hr.mono hk) bd .nil (passX tk σ) I (.cons rfl .nil) q
/-- x == y by the own method; tb: y's class -/
theorem opw_eqO {tb : Value} (mt : MetX X.prog X.w X.K X.mg X.base CX0 k C "__eq__" sp) (hr : Room j X.A) (hk : k ≤ j) (hn : PySem.W.notFirst X.K C tb = true)
    (hty : ∀ pins σ s u, Inv X pins σ H s → RelV y u → PySem.W.Looks (model X.prog X.w) s.heap (typeOf u) tb) (ha : H a = some (.ins C dx fs)) (q : sp [.ref a, y] H Q L2.E0) : OpW X (compareOp .Eq) (.ref a) y H Q := by
  obtain ⟨f, fd, ps, F, hm, bd⟩ := mt.ex
  intro pins s σ u v I ru rv
  cases (show u = Value.ref a from ru)
  obtain ⟨ox, od, J⟩ := inst_at I ha
  obtain ⟨m, hF⟩ := I.fr
  show wpAny (model X.prog X.w) X.A (richCompare .Eq (.ref a) v) (EP X pins σ Q) X.xe s
  refine PySem.W.cmp_K (op := .Eq) (tb := tb) hr.units0 hF I.ok.mod.kin J (hty pins σ s v I rv) hn hm.at_ hm.fn ?_
  refine wpAny_mono (run_fn (us := [.ref a, v]) (vs := [.ref a, y]) F (hr.mono hk) bd .nil pass0 I (.cons rfl (.cons rv .nil)) q) (fun w s' z => ?_) fun _ _ x => x
  obtain ⟨z', H', I', rz, qz⟩ := z
  exact SlX.cmpback rz ⟨z', H', I', rz, qz⟩
end
/-! an own error whose __init__ calls its base's -/
section
variable {X : Cx} {e : Expr} {es : List Expr} {σ : Sl} {H : Hp} {Q : VK} {x : Str} {p1 p2 pos : Pos} {E : Ends} {W : WX}
theorem pe_clsinit {C0 : Addr} {mc : Value} {ta : TA} {pl : Sem Bool} (hg : Gl X x) (hm : X.mg x = some (.ref C0)) (hsp : PySem.W.specialIn X.K (.ref C0) "__getattribute__" = some (some (.builtin "type.__getattribute__")))
    (hty : PySem.W.typeIn X.K (.ref C0) = some mc) (hrd : PySem.W.readsIn X.K C0 mc = true) (vV : PySem.W.findCls X.K (.ref C0) mc "__init__" = some (.val (.builtin "ValueError.__init__"))) (ha : PA X (e :: es) ta)
    (hc : eval (.Call (.Attribute (.Name x p1) "__init__" p2) (e :: es) [] pos) X.env = (do
      let ov ← eval (.Name x p1) X.env
      standAt p2.atName
      let (f, first) ← holding [ov] (getMethod ov "__init__" pl)
      callWith pos f first (backTo pos (starEach (e :: es) X.env)) (backToKw pos (keywordEach [] X.env))))
    (he : starEach (e :: es) X.env = (false, eval e X.env) :: starEach es X.env) (hpl : (backTo pos (starEach es X.env)).any (·.1) = false) (hdb : (x == ("__debug__" : Str)) = false) :
    PE X (.Call (.Attribute (.Name x p1) "__init__" p2) (e :: es) [] pos) (tVeI X.K ta) := by
  refine ⟨fun pins s σ H Q I h => ?_⟩
  refine PySem.W.methodCall_KW (ld_glob I hg hm ?_ hdb) hc
  obtain ⟨m, fr⟩ := I.fr
  refine PySem.W.method_of_cls fr I.ok.mod.kin hsp (PySem.W.cls_val fr I.ok.mod.kin hty hrd vV (by decide +kernel) ?_)
  show wpAny _ _ (callWith pos (Value.builtin "ValueError.__init__") [] (backTo pos (starEach (e :: es) X.env)) []) _ _ _
  refine PyProof.Rows.callWith_method1 (thn (ha.run pos pins _ σ H _ (I.tok _) h) fun us s1 ⟨vs, H1, I1, r1, a, C, ws, ev, hl, T, ea, q⟩ => ?_) he hpl
  subst ev
  cases r1 with
  | @cons _ u0 _ ur ra rw' =>
    obtain rfl : u0 = Value.ref a := ra
    exact oinit_ok T I1 ea (by rw [← Paired.length rw', sizeLine_eq]; omega) fun s' J => ⟨.non, H1, J, rfl, q⟩
theorem we_clsinit {C0 : Addr} {mc : Value} {pl : Sem Bool} (hg : Gl X x) (hm : X.mg x = some (.ref C0)) (hsp : PySem.W.specialIn X.K (.ref C0) "__getattribute__" = some (some (.builtin "type.__getattribute__")))
    (hty : PySem.W.typeIn X.K (.ref C0) = some mc) (hrd : PySem.W.readsIn X.K C0 mc = true) (vV : PySem.W.findCls X.K (.ref C0) mc "__init__" = some (.val (.builtin "ValueError.__init__")))
    (q : QA X (e :: es) σ H fun vs H1 => ∃ (a C : Addr) (ws : List V), vs = .ref a :: ws ∧ ws.length ≤ 1000 ∧ OexC X.K C ∧ H1 a = some (exo a C none) ∧ Q .non H1)
    (hc : eval (.Call (.Attribute (.Name x p1) "__init__" p2) (e :: es) [] pos) X.env = (do
      let ov ← eval (.Name x p1) X.env
      standAt p2.atName
      let (f, first) ← holding [ov] (getMethod ov "__init__" pl)
      callWith pos f first (backTo pos (starEach (e :: es) X.env)) (backToKw pos (keywordEach [] X.env))))
    (he : starEach (e :: es) X.env = (false, eval e X.env) :: starEach es X.env) (hpl : (backTo pos (starEach es X.env)).any (·.1) = false) (hdb : (x == ("__debug__" : Str)) = false) :
    QE X (.Call (.Attribute (.Name x p1) "__init__" p2) (e :: es) [] pos) σ H Q := we_of (pe_clsinit hg hm hsp hty hrd vV pa_sem hc he hpl hdb) q
theorem ws_ost {o : Expr} {f : Str} {p' : Pos} {C : Addr} (hs : swapsWith e (some (.Attribute o f p')) pos.line X.env = pure false) (T : OexC X.K C) (hno : PySem.W.findIn X.K (.ref C) f = some none)
    (q : QE X e σ H fun y H1 => QE X o σ H1 fun x H2 => ∃ a : Addr, x = .ref a ∧ H2 a = some (exo a C none) ∧ ∀ dx, H2 dx = none → dx ≠ a → E.nx σ (upd (upd H2 dx (exd dx [(f, y)])) a (exo a C (some dx)))) : QS X (.Assign [.Attribute o f p'] e pos) E σ H := by
  refine ws_of (ps_ost pe_sem pe_sem hs) ?_
  exact q.imp fun y H1 z => z.imp fun x H2 ⟨a, e1, e2, w⟩ => ⟨a, C, e1, T, hno, .inl ⟨e2, w⟩⟩
/-- what an own error's __init__ promises: its one field f -/
def spErr (C : Addr) (f : Str) : Sp := fun vs H Q _ => ∃ (a : Addr) (v : V), vs = [.ref a, v] ∧ H a = some (exo a C none) ∧ ∀ dx, H dx = none → dx ≠ a → Q .non (upd (upd H dx (exd dx [(f, v)])) a (exo a C (some dx)))
/-- raise C('m') -/
theorem ws_raiseR {C fI : Addr} {k j : Nat} {fd : FuncData} {ps : List Str} {f m : Str} {jm : Nat} {pm cpos : Pos} (hcal : X.calm = true) (tk : Takes X W) (T : OexC X.K C) (iC : PySem.W.findIn X.K (.ref C) "__init__" = some (some (.ref fI))) (tI : PySem.W.typeIn X.K (.ref fI) = some (.type "function"))
    (F1 : FnOk X.prog X.w X.K X.mg X.base CX0 k fI fd ps (spErr C f)) (hr : Room j X.A) (hk : k + 1 ≤ j) (hb : Binds X.K fd ps []) (hg : Gl X x) (hm : X.mg x = some (.ref C))
    (q : ∀ d H', H d = none → Same H H' → H' d = some (.xd [(f, .str m)]) → W (.ref C) (some d) σ H')
    (hdb : (x == ("__debug__" : Str)) = false) (he : starEach [.Constant (.str m) jm pm] X.env = (false, eval (.Constant (.str m) jm pm) X.env) :: starEach [] X.env) (hpl : (backTo cpos (starEach [] X.env)).any (·.1) = false) :
    QS X (.Raise (some (.Call (.Name x p1) [.Constant (.str m) jm pm] [] cpos)) none pos) E σ H := by
  refine ws_of (ps_raise hcal tk (pmk_oex T iC tI F1 (hr.mono hk) hb .nil pass0 hg hm (pa_cons pe_str pa_nil he) hdb he hpl)) ?_
  refine ⟨by simp, fun a ha => ⟨a, .str m, rfl, upd_same, fun dx hdx hne => ⟨rfl, dx, [(f, .str m)], upd_same, by rw [upd_ne hne]; exact upd_same, ?_, ?_⟩⟩⟩
  · rw [upd_ne hne] at hdx
    exact hdx
  · rw [upd_ne hne] at hdx
    refine q dx _ hdx (fun b u hb => ?_) upd_same
    have n1 : b ≠ a := ne_of_none hb ha
    have n2 : b ≠ dx := ne_of_none hb hdx
    rw [upd_ne n2, del_ne n1, upd_ne n1, upd_ne n2, upd_ne n1]
    exact hb
/-- err.f in a suite -/
theorem we_xf {a C : Addr} {oe : Obj} {d : Option Addr} {pn : List (Addr × Obj)} {n : Str} (T : XfC X.K C) (hno : PySem.W.findIn X.K (.ref C) n = some none) (hz : Zc (.ref C) d oe) (hf : ∃ vs, oe.data = .fields vs)
    (hb : attributeBase e n (X.suite a ((a, oe) :: pn)).env (eval e (X.suite a ((a, oe) :: pn)).env) = eval e (X.suite a ((a, oe) :: pn)).env)
    (q : QE (X.suite a ((a, oe) :: pn)) e σ H fun x H1 => x = .ref a ∧ ∃ (dd : Addr) (fs : List (Str × V)) (v : V), d = some dd ∧ H1 dd = some (.xd fs) ∧ fs.lookup n = some v ∧ Q v H1) : QE (X.suite a ((a, oe) :: pn)) (.Attribute e n pos) σ H Q := by
  refine we_of (pe_xf T hno hz hf pe_sem hb) ?_
  exact q.imp fun x H1 ⟨e1, z⟩ => ⟨e1, rfl, z⟩
/-! str(x) by the own __str__; f-texts -/
theorem callw_strOwn {C a dx : Addr} {fs : List (Str × V)} {k j : Nat} {sp : Sp} (mt : MetX X.prog X.w X.K X.mg X.base CX0 k C "__str__" sp) (hr : Room j X.A) (hk : k + 2 ≤ j) (ha : H a = some (.ins C dx fs)) (q : sp [.ref a] H (fun v H' => ∃ z, v = .str z ∧ Q v H') L2.E0) : CallW X (.type "str") [.ref a] H Q := by
  obtain ⟨f, fd, ps, F, hm, bd⟩ := mt.ex
  intro pins s σ us I r
  obtain ⟨u, rfl, ru⟩ := r.one
  cases (show u = Value.ref a from ru)
  obtain ⟨ox, od, J⟩ := inst_at I ha
  have hr1 : Room (k + 1) X.A.in1 := Room.in1 (hr.mono hk)
  have hr2 : Room k X.A.in1.in1 := hr1.in1
  refine PySem.W.kso_call hr2.units0 I.kIn J hm.at_ hm.fn (wpAny_mono (wpAny_call (SlX.run_at (us := [.ref a]) (ws := [.ref a]) (F.raw bd .nil) hr2 I.env0.in1.in1 pass0 I (.cons rfl .nil) q)) (fun w s' z => ?_) fun _ _ x => x)
  obtain ⟨z', H', I', rz, y, ei, qz⟩ := z
  subst ei
  obtain ⟨t, e⟩ := (show ∃ t, w = Value.str y t from rz)
  cases e
  exact ⟨.str y, H', I', ⟨t, rfl⟩, qz⟩
theorem we_fmt {pos : Pos} (q : QE X e σ H fun x H1 => ∃ i : Int, x = .int i ∧ i.natAbs.log2 < 1920 ∧ Q (.str (toString i)) H1) : QE X (.FormattedValue e (-1) none pos) σ H Q :=
  we_of (pe_fmt pe_sem) (q.imp fun x H1 ⟨i, e, h, z⟩ => .inr ⟨i, e, h, z⟩)
theorem str_assoc (a b c : Str) : Str.empty ++ a ++ b ++ c = a ++ (b ++ c) := by
  obtain ⟨a⟩ := a
  obtain ⟨b⟩ := b
  obtain ⟨c⟩ := c
  show Str.mk (#[] ++ a ++ b ++ c) = Str.mk (a ++ (b ++ c))
  rw [Array.empty_append, Array.append_assoc]
theorem str_len (a b : Str) : (a ++ b).length = a.length + b.length := by
  obtain ⟨a⟩ := a
  obtain ⟨b⟩ := b
  show (a ++ b).size = a.size + b.size
  exact Array.size_append
theorem we_joined3 {v1 v2 v3 : Expr} {pos : Pos} (q : QE X v1 σ H fun x H1 => ∃ a : Str, x = .str a ∧ a.length ≤ sizeLine ∧ QE X v2 σ H1 fun y H2 => ∃ b : Str, y = .str b ∧ a.length + b.length ≤ sizeLine ∧ QE X v3 σ H2 fun z H3 => ∃ c : Str, z = .str c ∧ a.length + b.length + c.length ≤ sizeLine ∧ Q (.str (a ++ (b ++ c))) H3) :
    QE X (.JoinedStr [v1, v2, v3] pos) σ H Q := by
  have l0 : (Str.empty).length = 0 := rfl
  refine we_of (pe_joined (.cons (t := QE X v1) pe_sem (.cons (t := QE X v2) pe_sem (.cons (t := QE X v3) pe_sem .nil)))) ?_
  refine q.imp fun x H1 ⟨a, e1, z1, q1⟩ => ⟨a, e1, by rw [str_len, l0]; omega, ?_⟩
  refine q1.imp fun y H2 ⟨b, e2, z2, q2⟩ => ⟨b, e2, by rw [str_len, str_len, l0]; omega, ?_⟩
  refine q2.imp fun z H3 ⟨c, e3, z3, q3⟩ => ⟨c, e3, by rw [str_len, str_len, str_len, l0]; omega, ?_⟩
  show Q (.str (Str.empty ++ a ++ b ++ c)) H3
  rw [str_assoc]
  exact q3
theorem we_meth0X {o : Expr} {C : Addr} {k j : Nat} {sp : Sp} {m : Str} {apos pos : Pos} {pl : Sem Bool} (c : Cls X.K C) (mt : MetX X.prog X.w X.K X.mg X.base (L2.CX X.prog X.w) k C m sp) (tk : Takes X W) (hr : Room j X.A) (hk : k ≤ j)
    (q : QE X o σ H fun x H1 => ∃ a dx fs, x = .ref a ∧ H1 a = some (.ins C dx fs) ∧ fs.lookup m = none ∧ sp [x] H1 Q fun c d H' => ∀ σ, W c d σ H')
    (ht : eval (.Call (.Attribute o m apos) [] [] pos) X.env = (do
      let ov ← eval o X.env
      standAt apos.atName
      let (f, first) ← holding [ov] (getMethod ov m pl)
      callWith pos f first (backTo pos (starEach [] X.env)) (backToKw pos (keywordEach [] X.env)))) : QE X (.Call (.Attribute o m apos) [] [] pos) σ H Q := by
  obtain ⟨f, fd, ps, F, hm, b⟩ := mt.ex
  exact we_of (pe_meth0 pe_sem c hm F (hr.mono hk) b .nil (passX tk σ) ht) q
/-- a local name that holds a def; what leaves it is wished for at these slots -/
theorem we_callLS {N : List Str} {i j k : Nat} {f : Addr} {fd : FuncData} {ps : List Str} {sp : Sp} {p0 pos : Pos} {y : Str} (F : FnOk X.prog X.w X.K X.mg X.base (L2.CX X.prog X.w) k f fd ps sp) (kp : PySem.W.keepIn X.K (.ref f) = true) (b : Binds X.K fd ps []) (tk : Takes X W) (hr : Room j X.A) (hk : k ≤ j)
    (h : Var N σ y (.ref f) i) (hN : X.N = N) (hv : Vis X.env.scope y) (q : QA X (e :: es) σ H fun vs H1 => sp vs H1 Q fun c d H' => W c d σ H')
    (hdb : (y == ("__debug__" : Str)) = false) (hcd : (y == ("__classdict__" : Str)) = false) (he : starEach (e :: es) X.env = (false, eval e X.env) :: starEach es X.env) (hpl : (backTo pos (starEach es X.env)).any (·.1) = false) :
    QE X (.Call (.Name y p0) (e :: es) [] pos) σ H Q := by
  intro pins s I
  refine wpAny_Call_Name_kw (thn ((pe_var (i := i) (pos := p0) (hN ▸ h.n) hv hdb hcd).run pins s σ H (fun v H1 => v = .ref f ∧ H1 = H) I ⟨.ref f, h.v, rfl, rfl⟩) fun u s1 ⟨v, H1, I1, r1, q1⟩ => ?_)
  obtain ⟨rfl, rfl⟩ := q1
  cases r1
  refine PySem.W.callWith_K (h₀ := X.base) I.ok.mod.kin kp (thn (q pos pins s1 I1) fun us s2 ⟨vs, H2, I2, r, q2⟩ => ⟨I2.kIn, ?_⟩) he hpl
  have hl := F.len _ _ _ _ q2
  refine wpAny_call (codeAny_mono (F.run X.A X.stack s2 H2 ⟨us, []⟩ us vs Q _ (hr.mono hk) I2.env0 (by
    have := b s2 us I2.kIn (by rw [List.append_nil, ← r.length]; exact hl)
    rwa [List.append_nil] at this) r q2) fun r s' hq => ?_)
  cases r with
  | error e => exact passAt tk σ pins H2 s2 e s' I2 hq
  | ok fl =>
    cases fl with
    | ret w => exact I2.after hq
    | next => exact False.elim hq
    | brk => exact False.elim hq
    | cont => exact False.elim hq
/-! isinstance(x, C) -/
theorem isi_any {C a dx : Addr} {fs : List (Str × V)} {c : V} {u : Value} {b : Bool} (I : C8.InsC X.K C) (h : H a = some (.ins C dx fs)) (hc : ClsV c u) (k : PySem.W.kitOne X.K (.ref C) u = some b) (q : Q (.bl b) H) : CallW X (.builtin "isinstance") [.ref a, c] H Q :=
  callw_of call_isi ⟨.ref a, c, .ref C, u, b, rfl, hc, .base (TyOf.ins h I.cl I.ha I.hn I.htk I.hm), k, q⟩
theorem isi_own {C a dx : Addr} {fs : List (Str × V)} (I : C8.InsC X.K C) (h : H a = some (.ins C dx fs)) (q : Q (.bl true) H) : CallW X (.builtin "isinstance") [.ref a, .ref C] H Q := isi_any I h (.own C) I.me q
theorem isi_not {C : Addr} {v : V} {d : D} {n : String} (h : Rp X.K H v d) (e : d.ty = some n) (k : PySem.W.kitOne X.K (.type n) (.ref C) = some false) (q : Q (.bl false) H) : CallW X (.builtin "isinstance") [v, .ref C] H Q :=
  callw_of call_isi ⟨v, .ref C, .type n, .ref C, false, rfl, .own C, h.tyx e, k, q⟩
end
/-! a def with defaults -/
section
variable {P : Program} {w : World} {K : PySem.W.Frag} {mg : Str → Option Value} {base : Heap}
theorem okXD {x qual : Str} {st : Stmt} {f : Addr} {fd : FuncData} {N ps : List Str} {k : Nat} {sp : Sp} {dvs : List V} {kws : List (Str × V)} (F : FunD K x qual (defArgs st) (defBody st) (defScope st) dvs kws f fd) (S : FnScope N ps (defScope st)) (len : ∀ vs H Q E, sp vs H Q E → vs.length = ps.length)
    (hbody : ∀ (cdv : Value) (A : Around) (outer : List Env) (s : Shared) (H : Hp) (vs : List V) (Q : VK) (E : XK), Room k (A.deeper (envOfC qual (defScope st) s.heap.objs.size f cdv)) → sp vs H Q E →
      (cxOf (L2.CX P w) P w K mg base N qual (defScope st) f cdv A outer s H E).N = N → (cxOf (L2.CX P w) P w K mg base N qual (defScope st) f cdv A outer s H E).N.Nodup →
      Takes (cxOf (L2.CX P w) P w K mg base N qual (defScope st) f cdv A outer s H E) (fun c d _ H' => E c d H') →
      QB (cxOf (L2.CX P w) P w K mg base N qual (defScope st) f cdv A outer s H E) (defBody st) { nx := fun _ H' => Q .non H', rt := Q } (start N vs) H) : FnOk P w K mg base (L2.CX P w) (k + 1) f fd ps sp :=
  F.ok S len fun cdv A outer s H vs Q E hr h => ⟨_, pss_sem, hbody cdv A outer s H vs Q E hr h rfl S.nd (takes_of rfl rfl rfl rfl)⟩
/-- a def with one default, as it stands behind the top -/
theorem funD_mk {x qual : Str} {st : Stmt} {f T : Addr} {oc : Value} {od an : Option Addr} {osl : Array (Option Value)} {kV doc pm cdv ct : Value} {o : Obj} {it : Value} {n : Nat} {dv : V} (l : K.lookup f = some ⟨oc, od, .func (PySem.W.fnOf x qual (defArgs st) (defBody st) (defScope st) (.ref T) kV doc pm an cdv ct), osl⟩)
    (c : PySem.W.codeIn K cdv qual = true) (k : PySem.W.keepIn K (.ref f) = true) (lT : K.lookup T = some o) (oT : o.data = .seq [it].toArray n) (r : RelV dv it) : FunD K x qual (defArgs st) (defBody st) (defScope st) [dv] [] f (PySem.W.fnOf x qual (defArgs st) (defBody st) (defScope st) (.ref T) kV doc pm an cdv ct) :=
  ⟨⟨oc, od, _, kV, doc, pm, an, cdv, ct, osl, rfl, l, c, .inr ⟨by simp, T, o, [it], n, rfl, lT, oT, .cons r .nil⟩, .inl rfl⟩, k⟩
end
end Sx

set_option maxHeartbeats 4000000
namespace K01
open PySem PySem.Spec PyProof.Rows L2 Sx
def top (i : Nat) : Stmt := PySem.Challenge.pw_motionroads_k01_whole_ratios_of_shifts.main.body.getD i (.Pass ⟨0, 0, 0, 0⟩)
local macro_rules | `(tactic| kct_strs) => `(tactic| first
  | ((with_reducible show QE _ _ _ _ _); (first
    | ((with_reducible refine' we_name ?h ?hN ?hv ?q); (case hN => first | with_reducible assumption | assumption); (case h => infer_instance); (case hv => first | exact Or.inl rfl | exact Or.inr (Or.inl rfl) | exact Or.inr (Or.inr rfl)); (case' q => skip))
    | with_reducible refine we_int ?_
    | with_reducible refine we_bl ?_
    | with_reducible refine we_non ?_
    | with_reducible refine we_str ?_
    | with_reducible refine we_bin ?_
    | with_reducible refine we_not ?_
    | with_reducible refine we_un ?_
    | with_reducible refine we_cmp (nomark _) ?_
    | ((with_reducible refine' we_chain ?h ?q); (case h => with_unfolding_all rfl); (case' q => skip))
    | with_reducible refine we_and ?_
    | with_reducible refine we_or ?_
    | with_reducible refine we_one ?_
    | with_reducible refine we_ifx ?_
    | with_reducible refine we_tup ?_
    | with_reducible refine we_lst ?_
    | ((with_reducible refine' we_fld ?hb ?q); (case hb => exact rfl); (case' q => skip))
    | ((with_reducible refine' we_join ?q ?hs ?hb ?hl); (case hs => exact rfl); (case hb => exact rfl); (case hl => exact rfl); (case' q => skip))
    | ((with_reducible refine' we_ix ?hs ?q); (case hs => intro _ _; exact rfl); (case' q => skip))
    | ((with_reducible refine' we_bltn ?hm ?hg ?hv ?q ?h1 ?h2 ?h3 ?h4); (case hv => infer_instance); (case hm => first | with_reducible assumption | assumption); (case hg => exact rfl); (case h1 => decide); (case h2 => decide); (case h3 => exact rfl); (case h4 => exact rfl); (case' q => skip))
    | ((with_reducible refine' we_type ?hm ?hg ?hv ?q ?h1 ?h2 ?h3 ?h4); (case hv => infer_instance); (case hm => first | with_reducible assumption | assumption); (case hg => exact rfl); (case h1 => decide); (case h2 => decide); (case h3 => exact rfl); (case h4 => exact rfl); (case' q => skip))
    | ((with_reducible refine' we_tyval ?hm ?hg ?hv ?q ?h1 ?h2); (case hv => infer_instance); (case hm => first | with_reducible assumption | assumption); (case hg => exact rfl); (case h1 => decide); (case h2 => decide); (case' q => skip))
    | ((with_reducible refine' we_gref ?hm ?hg ?q ?h1); (case hm => first | with_reducible assumption | assumption); (case hg => exact rfl); (case h1 => decide); (case' q => skip))
    | ((with_reducible refine' we_call ?c ?hr ?hk ?hg ?q ?h1 ?h2 ?h3); (case c => first | with_reducible assumption | assumption); (case hr => assumption); (case hk => decide); (case hg => exact rfl); (case h1 => decide); (case h2 => exact rfl); (case h3 => exact rfl); (case' q => skip))
    | ((with_reducible refine' we_callX ?c ?tk ?hr ?hk ?hg ?q ?h1 ?h2 ?h3); (case c => first | with_reducible assumption | assumption); (case tk => assumption); (case hr => assumption); (case hk => decide); (case hg => exact rfl); (case h1 => decide); (case h2 => exact rfl); (case h3 => exact rfl); (case' q => skip))
    | ((with_reducible refine' we_make ?mk ?tk ?hr ?hk ?hg ?q ?h1 ?h2 ?h3); (case mk => first | with_reducible assumption | assumption); (case tk => assumption); (case hr => assumption); (case hk => decide); (case hg => exact rfl); (case h1 => decide); (case h2 => exact rfl); (case h3 => exact rfl); (case' q => skip))
    | ((with_reducible refine' we_lc1 ?hi ?hN ?hc ?nd ?ok ?hs ?q); (case hN => first | with_reducible assumption | assumption); (case hi => infer_instance); (case hc => exact rfl); (case nd => first | with_reducible assumption | assumption); (case ok => exact ⟨rfl, of_decide_eq_true (by kernel_rfl), of_decide_eq_true (by kernel_rfl), of_decide_eq_true (by kernel_rfl), of_decide_eq_true (by kernel_rfl)⟩); (case hs => intro _; exact rfl); (case' q => skip))
    | ((with_reducible refine' we_lcn2 ?hi ?hj ?hN ?hc ?nd ?ok ?hs ?hs1 ?q); (case hN => first | with_reducible assumption | assumption); (case hi => infer_instance); (case hj => infer_instance); (case hc => exact rfl); (case nd => first | with_reducible assumption | assumption); (case ok => exact ⟨rfl, of_decide_eq_true (by kernel_rfl), of_decide_eq_true (by kernel_rfl), of_decide_eq_true (by kernel_rfl), of_decide_eq_true (by kernel_rfl)⟩); (case hs => intro _; exact rfl); (case hs1 => intro _ _; exact rfl); (case' q => skip))); kct_strs)
  | ((with_reducible show QT _ _ _ _ _); (first
    | with_reducible refine wt_not ?_
    | with_reducible refine wt_boolop ?_
    | with_reducible refine wt_cmp (nomark _) ?_
    | ((with_reducible refine' wt_chain ?h ?q); (case h => with_unfolding_all rfl); (case' q => skip))
    | ((with_reducible refine' wt_val ?h ?q); (case h => intro _; rfl); (case' q => skip))); kct_strs)
  | ((with_reducible show QW _ _ _ _ _); (first
    | with_reducible refine ww_and ?_
    | with_reducible refine ww_or ?_
    | with_reducible refine ww_and1 ?_
    | with_reducible refine ww_or1 ?_); kct_strs)
  | ((with_reducible show QA _ _ _ _ _); (first
    | with_reducible refine wa_nil ?_
    | ((with_reducible refine' wa_cons ?h ?q); (case h => exact rfl); (case' q => skip))); kct_strs)
  | ((with_reducible show OpW _ _ _ _ _ _); (first
    | with_reducible first | refine opw_add ?_ | refine opw_sub ?_ | refine opw_lt ?_ | refine opw_le ?_ | refine opw_gt ?_ | refine opw_ge ?_ | refine opw_eq ?_ | refine opw_ne ?_ | refine opw_eqb ?_ | refine opw_neb ?_ | refine opw_eqs ?_ | refine opw_nes ?_
    | ((with_reducible refine' opw_isN ?h ?q); (case h => assumption); (case' q => skip))); kct_strs)
  | ((with_reducible show UnW _ _ _ _ _); (first
    | with_reducible refine unw_neg ?_); kct_strs)
  | ((with_reducible show CallW _ _ _ _ _); (first
    | (with_reducible first | refine callw_abs ?_ | refine callw_int ?_ | refine callw_intb ?_)
    | ((with_reducible refine' isi_int ?h ?o ?q); (case h => assumption); (case o => first | assumption | rfl); (case' q => skip))
    | ((with_reducible refine' isi_bool ?h ?o ?q); (case h => assumption); (case o => first | assumption | rfl); (case' q => skip))
    | ((with_reducible refine' isi_str ?h ?o ?q); (case h => assumption); (case o => first | assumption | rfl); (case' q => skip))
    | ((with_reducible refine' isi_tuple ?h ?o ?q); (case h => assumption); (case o => first | assumption | rfl); (case' q => skip))); kct_strs)
  | ((with_reducible show QB _ _ _ _ _); (first
    | with_reducible refine wss_one ?_
    | with_reducible refine wss_cons ?_
    | with_reducible refine wss_nil ?_); kct_strs)
  | ((with_reducible show QS _ _ _ _ _); (first
    | with_reducible refine ws_ret ?_
    | with_reducible refine ws_retN ?_
    | with_reducible refine ws_if ?_
    | ((with_reducible refine' ws_lc1 ?h ?hi ?hN ?hc ?nd ?hyl ?hsw ?ok ?hs ?q); (case hN => first | with_reducible assumption | assumption); (case h => infer_instance); (case hi => infer_instance); (case hc => exact rfl); (case nd => first | with_reducible assumption | assumption); (case hyl => exact rfl); (case hsw => exact rfl); (case ok => exact ⟨rfl, of_decide_eq_true (by kernel_rfl), of_decide_eq_true (by kernel_rfl), of_decide_eq_true (by kernel_rfl), of_decide_eq_true (by kernel_rfl)⟩); (case hs => intro _; exact rfl); (case' q => skip))
    | ((with_reducible refine' ws_lcn2 ?h ?hi ?hj ?hN ?hc ?nd ?hyl ?hsw ?ok ?hs ?hs1 ?q); (case hN => first | with_reducible assumption | assumption); (case h => infer_instance); (case hi => infer_instance); (case hj => infer_instance); (case hc => exact rfl); (case nd => first | with_reducible assumption | assumption); (case hyl => exact rfl); (case hsw => exact rfl); (case ok => exact ⟨rfl, of_decide_eq_true (by kernel_rfl), of_decide_eq_true (by kernel_rfl), of_decide_eq_true (by kernel_rfl), of_decide_eq_true (by kernel_rfl)⟩); (case hs => intro _; exact rfl); (case hs1 => intro _ _; exact rfl); (case' q => skip))
    | ((with_reducible refine' ws_par ?hN ?hi ?hj ?hij ?hc ?nd ?hx ?hy ?hw ?hs ?q); (case hN => first | with_reducible assumption | assumption); (case hi => infer_instance); (case hj => infer_instance); (case hij => decide); (case hc => exact rfl); (case nd => first | with_reducible assumption | assumption); (case hx => exact rfl); (case hy => exact rfl); (case hw => exact rfl); (case hs => exact rfl); (case' q => skip))
    | ((with_reducible refine' ws_par3 ?hN ?hi ?hj ?hl ?hij ?hil ?hjl ?hc ?nd ?hx ?hy ?hz ?hw ?hs ?q); (case hN => first | with_reducible assumption | assumption); (case hi => infer_instance); (case hj => infer_instance); (case hl => infer_instance); (case hij => decide); (case hil => decide); (case hjl => decide); (case hc => exact rfl); (case nd => first | with_reducible assumption | assumption); (case hx => exact rfl); (case hy => exact rfl); (case hz => exact rfl); (case hw => exact rfl); (case hs => exact rfl); (case' q => skip))
    | ((with_reducible refine' ws_fld ?hs ?q); (case hs => exact rfl); (case' q => skip))
    | ((with_reducible refine' ws_asg ?h1 ?h2 ?h3 ?q); (case h1 => exact rfl); (case h2 => exact rfl); (case h3 => exact rfl); (case' q => skip))
    | ((with_reducible refine' ws_expr ?h ?q); (case h => exact rfl); (case' q => skip))
    | ((with_reducible refine' ws_forr1 ?hm ?hg ?hp ?hc ?hfs ?hs1 ?q); (case hm => first | with_reducible assumption | assumption); (case hg => exact rfl); (case hp => first | exact PassesOwn.never | assumption); (case hc => exact rfl); (case hfs => intro _; exact rfl); (case hs1 => exact rfl); (case' q => skip))
    | ((with_reducible refine' ws_forr2 ?hm ?hg ?hp ?hc ?hfs ?hs1 ?hs2 ?q); (case hm => first | with_reducible assumption | assumption); (case hg => exact rfl); (case hp => first | exact PassesOwn.never | assumption); (case hc => exact rfl); (case hfs => intro _; exact rfl); (case hs1 => exact rfl); (case hs2 => exact rfl); (case' q => skip))); kct_strs)
  | ((with_reducible show QG _ _ _ _ _ _); (first
    | ((with_reducible refine' wg_name ?h ?hN ?nd ?hx ?hf ?q); (case hN => first | with_reducible assumption | assumption); (case h => infer_instance); (case nd => first | with_reducible assumption | assumption); (case hx => first | exact Or.inl rfl | exact Or.inr rfl); (case hf => first | exact Or.inl rfl | exact Or.inr rfl); (case' q => skip))
    | ((with_reducible refine' wg_tup ?hc ?ht ?hl ?hst ?q); (case hc => exact rfl); (case ht => exact Or.inl (Or.inl (by assumption))); (case hl => exact rfl); (case hst => exact rfl); (case' q => skip))
    | ((with_reducible refine' wg_sub ?ha ?q); (case ha => intro _; exact rfl); (case' q => skip))); kct_strs)
  | ((with_reducible show QGs _ _ _ _ _ _); (first
    | with_reducible refine wgs_nil ?_
    | ((with_reducible refine' wgs_cons ?h ?q); (case h => exact rfl); (case' q => skip))); kct_strs)
  | ((with_reducible show Exists _); (first
    | with_reducible refine ⟨_, rfl, ?_⟩
    | ((with_reducible refine' ⟨_, _, rfl, _, _, ?p1, ?p2, ?q⟩); (case p1 => infer_instance); (case p2 => infer_instance); (case' q => skip))
    | ((with_reducible refine' ⟨_, _, _, rfl, _, _, _, ?p1, ?p2, ?p3, ?q⟩); (case p1 => infer_instance); (case p2 => infer_instance); (case p3 => infer_instance); (case' q => skip))); kct_strs)
  | skip)
local macro_rules | `(tactic| l_ints) => `(tactic| first
  | ((with_reducible refine' ql_lcr1 ?hm ?hg ?h ?hN ?nd ?hl ?hf ?hs1 ?q); (case hm => first | with_reducible assumption | assumption); (case hg => exact rfl); (case hN => first | with_reducible assumption | assumption); (case h => infer_instance); (case nd => first | with_reducible assumption | assumption); (case hl => intro _ _ _ _ _; first | exact Or.inl rfl | exact Or.inr rfl); (case hf => intro _ _ _ _ _; first | exact Or.inl rfl | exact Or.inr rfl); (case hs1 => exact rfl); (case' q => skip))
  | ((with_reducible refine' ql_lcr2 ?hm ?hg ?h ?hN ?nd ?hl ?hf ?hs1 ?hs2 ?q); (case hm => first | with_reducible assumption | assumption); (case hg => exact rfl); (case hN => first | with_reducible assumption | assumption); (case h => infer_instance); (case nd => first | with_reducible assumption | assumption); (case hl => intro _ _ _ _ _; first | exact Or.inl rfl | exact Or.inr rfl); (case hf => intro _ _ _ _ _; first | exact Or.inl rfl | exact Or.inr rfl); (case hs1 => exact rfl); (case hs2 => exact rfl); (case' q => skip))
  | ((with_reducible refine' ql_lcr2T ?hm ?hg ?h ?hN ?nd ?hl ?hf ?hs1 ?hs2 ?q); (case hm => first | with_reducible assumption | assumption); (case hg => exact rfl); (case hN => first | with_reducible assumption | assumption); (case h => infer_instance); (case nd => first | with_reducible assumption | assumption); (case hl => intro _ _ _ _ _; first | exact Or.inl rfl | exact Or.inr rfl); (case hf => intro _ _ _ _ _; first | exact Or.inl rfl | exact Or.inr rfl); (case hs1 => exact rfl); (case hs2 => exact rfl); (case' q => skip)))
local macro_rules | `(tactic| mem_news) => `(tactic| ((with_reducible refine' ql_lct ?h ?hN ?nd ?hl ?hf ?q); (case hN => first | with_reducible assumption | assumption); (case h => infer_instance); (case nd => first | with_reducible assumption | assumption); (case hl => intro _ _ _ _ _; first | exact Or.inl rfl | exact Or.inr rfl); (case hf => intro _ _ _ _ _; first | exact Or.inl rfl | exact Or.inr rfl); (case' q => skip)))
local macro_rules | `(tactic| mod_arm) => `(tactic| ((with_reducible refine' ql_lcl ?h ?hN ?nd ?hl ?hf ?q); (case hN => first | with_reducible assumption | assumption); (case h => infer_instance); (case nd => first | with_reducible assumption | assumption); (case hl => intro _ _ _ _ _; first | exact Or.inl rfl | exact Or.inr rfl); (case hf => intro _ _ _ _ _; first | exact Or.inl rfl | exact Or.inr rfl); (case' q => skip)))
local macro_rules | `(tactic| one_item) => `(tactic| ((with_reducible refine' ws_fort ?hp ?hc ?hfs ?q); (case hp => first | exact PassesOwn.never | assumption); (case hc => exact rfl); (case hfs => intro _; exact rfl); (case' q => skip)))
local macro_rules | `(tactic| one_place) => `(tactic| ((with_reducible refine' ws_forl ?hp ?hc ?hfs ?q); (case hp => first | exact PassesOwn.never | assumption); (case hc => exact rfl); (case hfs => intro _; exact rfl); (case' q => skip)))
local macro_rules | `(tactic| one_sign) => `(tactic| ((with_reducible refine' ql2_seq ?h1 ?h ?h2 ?hij ?hN ?nd ?hl ?hf ?hl1 ?hf1 ?q); (case hN => first | with_reducible assumption | assumption); (case h1 => infer_instance); (case h => infer_instance); (case h2 => intro _; infer_instance); (case hij => decide); (case nd => first | with_reducible assumption | assumption); (case hl => intro _ _ _ _ _; first | exact Or.inl rfl | exact Or.inr rfl); (case hf => intro _ _ _ _ _; first | exact Or.inl rfl | exact Or.inr rfl); (case hl1 => intro _ _ _ _ _; first | exact Or.inl rfl | exact Or.inr rfl); (case hf1 => intro _ _ _ _ _; first | exact Or.inl rfl | exact Or.inr rfl); (case' q => skip)))
local macro_rules | `(tactic| pv_eval) => `(tactic| ((with_reducible refine' ql_st ?hm ?hg ?h ?hN ?nd ?hl ?hf ?hs1 ?q); (case hm => first | with_reducible assumption | assumption); (case hg => exact rfl); (case hN => first | with_reducible assumption | assumption); (case h => infer_instance); (case nd => first | with_reducible assumption | assumption); (case hl => intro _ _ _ _ _; first | exact Or.inl rfl | exact Or.inr rfl); (case hf => intro _ _ _ _ _; first | exact Or.inl rfl | exact Or.inr rfl); (case hs1 => exact rfl); (case' q => skip)))
/-- the j-th statement of the class at top i -/
def inC (i j : Nat) : Stmt := match top i with
  | .ClassDef _ _ _ body _ _ _ _ _ _ _ => body.getD j (.Pass ⟨0, 0, 0, 0⟩)
  | _ => .Pass ⟨0, 0, 0, 0⟩
section
variable {P : Program} {w : World} {K : PySem.W.Frag} {mg : Str → Option Value} {base : Heap}
theorem scA : FnScope ["value"] ["value"] (defScope (top 5)) := ⟨rfl, rfl, rfl, by decide +kernel, rfl, by decide +kernel, by decide +kernel⟩
theorem scB : FnScope ["a", "b"] ["a", "b"] (defScope (top 6)) := ⟨rfl, rfl, rfl, by decide +kernel, rfl, by decide +kernel, by decide +kernel⟩
theorem scR : FnScope ["self", "reason"] ["self", "reason"] (defScope (inC 3 0)) := ⟨rfl, rfl, rfl, by decide +kernel, rfl, by decide +kernel, by decide +kernel⟩
theorem scI : FnScope ["self", "n", "d", "g"] ["self", "n", "d"] (defScope (inC 8 0)) := ⟨rfl, rfl, rfl, by decide +kernel, rfl, by decide +kernel, by decide +kernel⟩
theorem scC : FnScope ["value"] ["value"] (defScope (top 9)) := ⟨rfl, rfl, rfl, by decide +kernel, rfl, by decide +kernel, by decide +kernel⟩
def spWhole (K : PySem.W.Frag) : Sp := fun vs H Q _ => ∃ v d, vs = [v] ∧ Rp K H v d ∧ d.ty.isSome = true ∧ Q (.bl d.whole) H
theorem ok_is_integer {f : Addr} {fd : FuncData} (F : Fun K "is_integer" "is_integer" (top 5) f fd) (m1 : mg "isinstance" = none) (m2 : mg "int" = none) (m3 : mg "bool" = none) : FnOk P w K mg base CX0 1 f fd ["value"] (spWhole K) := by
  refine okS F scA (fun vs H Q E ⟨_, _, e, _⟩ => by rw [e]; rfl) ?_
  rintro cdv A outer s H _ Q E hr ⟨v, d, rfl, rp, hd, q⟩ hN nd
  change QB _ (_ :: _) _ [some _] _
  kct_strs
  refine ifb (fun e1 => ?_) (fun e1 => ?_)
  · kct_strs
    rw [D.whole_eq, e1] at q
    exact q
  · rw [D.whole_eq, e1] at q
    exact q
theorem gcd_mod (a b : Int) : Int.gcd b (a % b) = Int.gcd a b := by
  rw [Int.emod_def, Int.gcd_sub_mul_left_right, Int.gcd_comm]
def spCommon : Sp := fun vs H Q _ => ∃ a b : Int, vs = [.int a, .int b] ∧ Q (.int (Int.gcd a b)) H
theorem ok_common {f : Addr} {fd : FuncData} (F : Fun K "common" "common" (top 6) f fd) (m1 : mg "abs" = none) : FnOk P w K mg base CX0 1 f fd ["a", "b"] spCommon := by
  refine okS F scB (fun vs H Q E ⟨_, _, e, _⟩ => by rw [e]; rfl) ?_
  rintro cdv A outer s H _ Q E hr ⟨a, b, rfl, q⟩ hN nd
  change QB _ (_ :: _) _ [some _, some _] _
  kct_strs
  refine ws_while (fun σ1 H1 => ∃ a1 b1 : Int, σ1 = [some (.int a1), some (.int b1)] ∧ H = H1 ∧ 0 ≤ a1 ∧ 0 ≤ b1 ∧ Int.gcd a1 b1 = Int.gcd a b) (fun σ1 _ => match σ1 with | [_, some (.int b)] => b.toNat | _ => 0) PassesOwn.never ?_ ?_
  · refine ⟨_, _, rfl, rfl, by split <;> omega, by split <;> omega, ?_⟩
    split <;> split <;> simp [Int.gcd]
  · rintro _ H1 ⟨a1, b1, rfl, rfl, ha1, hb1, hg⟩
    kct_strs
    refine ifd (fun hb => ?_) (fun hb => ?_)
    · kct_strs
      refine opw_mod hb ?_
      kct_strs
      refine ⟨⟨_, _, rfl, rfl, hb1, Int.emod_nonneg _ (by omega), ?_⟩, ?_⟩
      · rw [← hg, gcd_mod]
      · have := Int.emod_lt_of_pos a1 hb
        show (a1 % b1).toNat < b1.toNat
        omega
    · have e : b1 = 0 := by omega
      subst e
      kct_strs
      rw [Int.gcd_zero_right] at hg
      have e : a1 = (Int.gcd a b : Int) := by omega
      rw [e]
      exact q
/-- what the text's classes are: F the base of the errors, M, R the errors, C the ratios -/
structure Cls4 (K : PySem.W.Frag) (mg : Str → Option Value) (Fa M R C : Addr) : Prop where
  gF : mg "Fault" = some (.ref Fa)
  sF : PySem.W.specialIn K (.ref Fa) "__getattribute__" = some (some (.builtin "type.__getattribute__"))
  tF : PySem.W.typeIn K (.ref Fa) = some (.type "type")
  rF : PySem.W.readsIn K Fa (.type "type") = true
  vF : PySem.W.findCls K (.ref Fa) (.type "type") "__init__" = some (.val (.builtin "ValueError.__init__"))
  gM : mg "Malformed" = some (.ref M)
  xM : PySem.W.excIn K M [.type "ValueError", .type "Exception", .type "BaseException", .type "object"] "ValueError.__new__" = true
  kM : PySem.W.keepIn K (.ref M) = true
  bM : PySem.W.subIn K (.ref M) (.type "BaseException") = some true
  tM : PySem.W.typeIn K (.ref M) = some (.type "type")
  gR : mg "Refused" = some (.ref R)
  oR : OexC K R
  nR : PySem.W.findIn K (.ref R) "reason" = some none
  xR : XfC K R
  eMM : PySem.W.exmOne K (.ref M) (.ref M) = some true
  eRM : PySem.W.exmOne K (.ref R) (.ref M) = some false
  eRR : PySem.W.exmOne K (.ref R) (.ref R) = some true
  gC : mg "Ratio" = some (.ref C)
  iC : C8.InsC K C
  pC : PySem.W.selfFirst K C = true
  an : NoAttr K C "n"
  ad : NoAttr K C "d"
  k0 : PySem.W.kitOne K (.type "NoneType") (.ref C) = some false
  k1 : PySem.W.kitOne K (.type "bool") (.ref C) = some false
  k2 : PySem.W.kitOne K (.type "int") (.ref C) = some false
  k3 : PySem.W.kitOne K (.type "str") (.ref C) = some false
  k4 : PySem.W.kitOne K (.type "tuple") (.ref C) = some false
  nR2 : R ≠ M
theorem ok_refused {f Fa M R C : Addr} {fd : FuncData} (F : Fun K "__init__" "Refused.__init__" (inC 3 0) f fd) (T : Cls4 K mg Fa M R C) : FnOk P w K mg base CX0 1 f fd ["self", "reason"] (spErr R "reason") := by
  refine okS F scR (fun vs H Q E ⟨_, _, e, _⟩ => by rw [e]; rfl) ?_
  rintro cdv A outer s H _ Q E hr ⟨a, v, rfl, ha, q⟩ hN nd
  change QB _ (_ :: _) _ [some _, some _] _
  refine wss_cons ?_
  refine ws_expr rfl ?_
  refine we_clsinit rfl T.gF T.sF T.tF T.rF T.vF ?_ rfl rfl rfl (by decide)
  kct_strs
  refine ⟨a, R, [v], rfl, by simp, T.oR, ha, ?_⟩
  refine wss_one ?_
  refine ws_ost rfl T.oR T.nR ?_
  kct_strs
  exact ⟨ha, q⟩
/-- the ratio of n and d in lowest terms -/
def rp (n d : Int) : Int := if 0 < d then n / (Int.gcd n d : Int) else (-n) / (Int.gcd n d : Int)
def rq (n d : Int) : Int := (if d < 0 then -d else d) / (Int.gcd n d : Int)
def spInit (M R C : Addr) : Sp := fun vs H Q E => ∃ (a dx : Addr) (x y : V) (d1 d2 : D), vs = [.ref a, x, y] ∧ H a = some (.ins C dx []) ∧ Rp K H x d1 ∧ Rp K H y d2 ∧ d1.ty.isSome = true ∧ d2.ty.isSome = true ∧ (∀ j, d2 = .int j → j.natAbs < 1073741824) ∧
  ((d1.whole && d2.whole) = false → E (.ref M) none H) ∧ (∀ n, d1 = .int n → d2 = .int 0 → ∀ d H', H d = none → Same H H' → H' d = some (.xd [("reason", .str "zero")]) → E (.ref R) (some d) H') ∧
  (∀ n m, d1 = .int n → d2 = .int m → m ≠ 0 → ∀ H', (∀ b o, b ≠ a → H b = some o → H' b = some o) → H' a = some (.ins C dx [("n", .int (rp n m)), ("d", .int (rq n m))]) → Q .non H')
theorem ok_ratio {f fR Fa M R C : Addr} {fd fdR : FuncData} (F : FunD K "__init__" "Ratio.__init__" (defArgs (inC 8 0)) (defBody (inC 8 0)) (defScope (inC 8 0)) [.int 1] [] f fd) (T : Cls4 K mg Fa M R C) (c1 : Cal P w K mg base 1 "is_integer" (spWhole K) []) (c2 : Cal P w K mg base 1 "common" spCommon [])
    (FR : FnOk P w K mg base CX0 1 fR fdR ["self", "reason"] (spErr R "reason")) (iR : PySem.W.findIn K (.ref R) "__init__" = some (some (.ref fR))) (tR : PySem.W.typeIn K (.ref fR) = some (.type "function")) (bR : Binds K fdR ["self", "reason"] []) (m1 : mg "abs" = none) :
    FnOk P w K mg base (L2.CX P w) 3 f fd ["self", "n", "d"] (spInit (K := K) M R C) := by
  refine okXD F scI (fun vs H Q E ⟨_, _, _, _, _, _, e, _⟩ => by rw [e]; rfl) ?_
  rintro cdv A outer s H _ Q E hr ⟨a, dx, x, y, d1, d2, rfl, ha, r1, r2, t1, t2, hs, qM, qR, q⟩ hN nd tk
  change QB _ (_ :: _) _ [some _, some _, some _, none] _
  kct_strs
  refine ⟨_, _, rfl, r1, t1, ?_⟩
  kct_strs
  have bad : ∀ {E1 : Ends} {σ1 : Sl}, (d1.whole && d2.whole) = false → QS (cxOf (L2.CX P w) P w K mg base ["self", "n", "d", "g"] "Ratio.__init__" (defScope (inC 8 0)) f cdv A outer s H E) (.Raise (some (.Call (.Name "Malformed" ⟨24, 18, 24, 27⟩) [.Constant (.str "a number") 0 ⟨24, 28, 24, 38⟩] [] ⟨24, 18, 24, 39⟩)) none ⟨24, 12, 24, 39⟩) E1 σ1 H :=
    fun {E1 σ1} e => ws_raise rfl tk PySem.F.excBase_ValueError T.xM T.gM T.kM (raises_own T.bM T.tM) rfl (qM e)
  refine ifnb (fun e1 => ?_) (fun e1 => ?_)
  · rw [if_pos rfl]
    kct_strs
    exact bad (by rw [e1]; rfl)
  kct_strs
  refine ⟨_, _, rfl, r2, t2, ?_⟩
  kct_strs
  refine ifnb (fun e2 => ?_) (fun e2 => ?_)
  · kct_strs
    exact bad (by rw [e2, Bool.and_false])
  obtain ⟨n, rfl⟩ : ∃ n, d1 = .int n := by
    cases d1 <;> first | exact ⟨_, rfl⟩ | cases e1
  obtain ⟨m, rfl⟩ : ∃ n, d2 = .int n := by
    cases d2 <;> first | exact ⟨_, rfl⟩ | cases e2
  cases r1
  cases r2
  have hm := hs m rfl
  kct_strs
  refine ifd (fun e3 => ?_) (fun e3 => ?_)
  · subst e3
    kct_strs
    exact ws_raiseR rfl tk T.oR iR tR FR hr (by decide) bR rfl T.gR (qR n rfl rfl) (by decide) rfl rfl
  kct_strs
  refine ⟨_, _, rfl, ?_⟩
  have hg : 0 < Int.gcd n m := Nat.pos_of_ne_zero fun e => e3 (Int.gcd_eq_zero_iff.mp e).2
  have hg2 : Int.gcd n m ≤ m.natAbs := Nat.le_of_dvd (by omega) (Nat.gcd_dvd_right _ _)
  have fin : ∀ p q' : Int, p = rp n m → q' = rq n m → Q .non (upd (upd H a (.ins C dx (putF "n" (.int p) []))) a (.ins C dx (putF "d" (.int q') (putF "n" (.int p) [])))) := by
    rintro p q' rfl rfl
    refine q n m rfl rfl e3 _ (fun b o hb e => by rw [upd_ne hb, upd_ne hb]; exact e) upd_same
  kct_strs
  refine ifd (fun e4 => ?_) (fun e4 => ?_)
  · kct_strs
    refine opw_div ⟨by omega, by omega⟩ ?_
    kct_strs
    refine ⟨a, C, dx, [], rfl, ha, T.iC.cl, T.an, by decide, ?_⟩
    kct_strs
    refine opw_div ⟨by omega, by omega⟩ ?_
    kct_strs
    refine ⟨a, C, dx, _, rfl, upd_same, T.iC.cl, T.ad, by simp [putF], ?_⟩
    exact fin _ _ (by unfold rp; rw [if_pos e4]) rfl
  · kct_strs
    refine opw_div ⟨by omega, by omega⟩ ?_
    kct_strs
    refine ⟨a, C, dx, [], rfl, ha, T.iC.cl, T.an, by decide, ?_⟩
    kct_strs
    refine opw_div ⟨by omega, by omega⟩ ?_
    kct_strs
    refine ⟨a, C, dx, _, rfl, upd_same, T.iC.cl, T.ad, by simp [putF], ?_⟩
    exact fin _ _ (by unfold rp; rw [if_neg e4]) rfl
end
section
variable {P : Program} {w : World} {K : PySem.W.Frag} {mg : Str → Option Value} {base : Heap}
/-- an instance that stands for p / q -/
def Rt (C : Addr) (H : Hp) (a : Addr) (p q : Int) : Prop := ∃ dx, H a = some (.ins C dx [("n", .int p), ("d", .int q)])
theorem Rt.to {C : Addr} {H H' : Hp} {a : Addr} {p q : Int} (h : Rt C H a p q) (s : Same H H') : Rt C H' a p q := by
  obtain ⟨dx, e⟩ := h
  exact ⟨dx, s _ _ e⟩
theorem init_use {C M R x dx : Addr} {H H2 : Hp} {N D : Int} {Q : VK} {E : XK} (hx0 : H x = none) (s : Same H H2) (hx : H2 x = some (.ins C dx [])) (hD : D.natAbs < 1073741824)
    (hz : D = 0 → ∀ d H', H2 d = none → Same H2 H' → H' d = some (.xd [("reason", .str "zero")]) → E (.ref R) (some d) H') (q : D ≠ 0 → ∀ H', Same H H' → Rt C H' x (rp N D) (rq N D) → Q (.ref x) H') :
    spInit (K := K) M R C [.ref x, .int N, .int D] H2 (fun v H3 => v = .non ∧ Q (.ref x) H3) E := by
  refine ⟨x, dx, .int N, .int D, .int N, .int D, rfl, hx, .int _, .int _, rfl, rfl, (fun j e => by cases e; exact hD), (fun e => by cases e), fun n _ e => ?_, fun n m e1 e2 hm H' k1 k2 => ⟨rfl, ?_⟩⟩
  · injection e with e
    exact hz e
  · cases e1
    cases e2
    exact q hm H' (fun b o hb => k1 b o (ne_of_none hb hx0) (s b o hb)) ⟨dx, k2⟩
def spChk (K : PySem.W.Frag) (M C : Addr) : Sp := fun vs H Q E => ∃ v, vs = [v] ∧ ((∃ b p q, v = .ref b ∧ Rt C H b p q ∧ Q .non H) ∨ (∃ d n, Rp K H v d ∧ d.ty = some n ∧ n ≠ "list" ∧ E (.ref M) none H))
theorem isi_data {X : Cx} {Fa M R C : Addr} {H : Hp} {Q : VK} {v : V} {d : D} {n : String} (T : Cls4 X.K mg Fa M R C) (h : Rp X.K H v d) (e : d.ty = some n) (hn : n ≠ "list") (q : Q (.bl false) H) : CallW X (.builtin "isinstance") [v, .ref C] H Q := by
  have e' := e
  cases d <;> simp only [D.ty, Option.some.injEq, reduceCtorEq] at e
  · exact isi_not h e' (e ▸ T.k0) q
  · exact isi_not h e' (e ▸ T.k1) q
  · exact isi_not h e' (e ▸ T.k2) q
  · exact isi_not h e' (e ▸ T.k3) q
  · exact isi_not h e' (e ▸ T.k4) q
  · exact absurd e.symm hn
theorem ok_check {f Fa M R C : Addr} {fd : FuncData} (F : Fun K "check_ratio" "check_ratio" (top 9) f fd) (T : Cls4 K mg Fa M R C) (m1 : mg "isinstance" = none) : FnOk P w K mg base (L2.CX P w) 1 f fd ["value"] (spChk K M C) := by
  refine okXS F scC (fun vs H Q E ⟨_, e, _⟩ => by rw [e]; rfl) ?_
  rintro cdv A outer s H _ Q E hr ⟨v, rfl, h⟩ hN nd tk
  have gC := T.gC
  change QB _ (_ :: _) _ [some _] _
  kct_strs
  rcases h with ⟨b, p, q, rfl, ⟨dx, hb⟩, z⟩ | ⟨d, n, r, e, hn, z⟩
  · refine isi_own T.iC hb ?_
    kct_strs
    rw [if_neg (by decide)]
    kct_strs
    exact z
  · refine isi_data (mg := mg) T r e hn ?_
    kct_strs
    rw [if_pos (by decide)]
    kct_strs
    exact ws_raise rfl tk PySem.F.excBase_ValueError T.xM T.gM T.kM (raises_own T.bM T.tM) rfl z
/-- an operator of two ratios, the second small; N, D: what is made; another thing is refused -/
def spOp (K : PySem.W.Frag) (M R C : Addr) (N D : Int → Int → Int → Int → Int) : Sp := fun vs H Q E => ∃ (a : Addr) (y : V) (p q : Int), vs = [.ref a, y] ∧ Rt C H a p q ∧ q.natAbs < 16384 ∧
  ((∃ b p' q', y = .ref b ∧ Rt C H b p' q' ∧ p'.natAbs < 16384 ∧ q'.natAbs < 16384 ∧ (D p q p' q' ≠ 0 → ∀ c H', Same H H' → Rt C H' c (rp (N p q p' q') (D p q p' q')) (rq (N p q p' q') (D p q p' q')) → Q (.ref c) H') ∧
      (D p q p' q' = 0 → ∀ d H', Same H H' → H' d = some (.xd [("reason", .str "zero")]) → E (.ref R) (some d) H')) ∨
   (∃ d n, Rp K H y d ∧ d.ty = some n ∧ n ≠ "list" ∧ E (.ref M) none H))
theorem small_mul {a b : Int} (h1 : a.natAbs < 16384) (h2 : b.natAbs < 16384) : (a * b).natAbs < 1073741824 := by
  rw [Int.natAbs_mul]
  have := Nat.mul_le_mul (Nat.le_of_lt h1) (Nat.le_of_lt h2)
  omega
theorem scM1 : FnScope ["self", "other"] ["self", "other"] (defScope (inC 8 1)) := ⟨rfl, rfl, rfl, by decide +kernel, rfl, by decide +kernel, by decide +kernel⟩
theorem ok_add {f Fa M R C : Addr} {fd : FuncData} (F : Fun K "__add__" "Ratio.__add__" (inC 8 1) f fd) (T : Cls4 K mg Fa M R C) (X1 : CalX P w K mg base 1 "check_ratio" (spChk K M C) []) (m1 : MakX P w K mg base (L2.CX P w) 3 "Ratio" C (spInit (K := K) M R C)) : FnOk P w K mg base (L2.CX P w) 5 f fd ["self", "other"] (spOp K M R C (fun p q p' q' => p * q' + p' * q) (fun p q p' q' => q * q')) := by
  refine okXS F scM1 (fun vs H Q E ⟨_, _, _, _, e, _⟩ => by rw [e]; rfl) ?_
  rintro cdv A outer s H _ Q E hr ⟨a, y, p, q, rfl, ⟨dx, ha⟩, hq, h⟩ hN nd tk
  change QB _ (_ :: _ :: []) _ [some _, some _] _
  kct_strs
  rcases h with ⟨b, p', q', rfl, ⟨dy, hb⟩, hp', hq', z, zz⟩ | ⟨d, n, r, e, hn, z⟩
  · refine ⟨_, rfl, .inl ⟨b, p', q', rfl, ⟨dy, hb⟩, ?_⟩⟩
    kct_strs
    refine fldw_raw T.iC.cl T.an ha rfl ?_
    kct_strs
    refine fldw_raw T.iC.cl T.ad hb rfl ?_
    kct_strs
    refine opw_mul (.inr (by omega)) ?_
    kct_strs
    refine fldw_raw T.iC.cl T.an hb rfl ?_
    kct_strs
    refine fldw_raw T.iC.cl T.ad ha rfl ?_
    kct_strs
    refine opw_mul (.inl (by omega)) ?_
    kct_strs
    refine fldw_raw T.iC.cl T.ad ha rfl ?_
    kct_strs
    refine fldw_raw T.iC.cl T.ad hb rfl ?_
    kct_strs
    refine opw_mul (.inl (by omega)) ?_
    kct_strs
    intro x dx2 H2 hx0 s2 hx hdx hne
    refine init_use hx0 s2 hx (small_mul hq hq') (fun e d H' hd sd ed σ => zz e d H' (s2.trans sd) ed) (fun e H' s' r => z e x H' s' r)
  · exact ⟨_, rfl, .inr ⟨d, n, r, e, hn, fun σ => z⟩⟩
theorem scM2 : FnScope ["self", "other"] ["self", "other"] (defScope (inC 8 2)) := ⟨rfl, rfl, rfl, by decide +kernel, rfl, by decide +kernel, by decide +kernel⟩
theorem ok_sub {f Fa M R C : Addr} {fd : FuncData} (F : Fun K "__sub__" "Ratio.__sub__" (inC 8 2) f fd) (T : Cls4 K mg Fa M R C) (X1 : CalX P w K mg base 1 "check_ratio" (spChk K M C) []) (m1 : MakX P w K mg base (L2.CX P w) 3 "Ratio" C (spInit (K := K) M R C)) : FnOk P w K mg base (L2.CX P w) 5 f fd ["self", "other"] (spOp K M R C (fun p q p' q' => p * q' - p' * q) (fun p q p' q' => q * q')) := by
  refine okXS F scM2 (fun vs H Q E ⟨_, _, _, _, e, _⟩ => by rw [e]; rfl) ?_
  rintro cdv A outer s H _ Q E hr ⟨a, y, p, q, rfl, ⟨dx, ha⟩, hq, h⟩ hN nd tk
  change QB _ (_ :: _ :: []) _ [some _, some _] _
  kct_strs
  rcases h with ⟨b, p', q', rfl, ⟨dy, hb⟩, hp', hq', z, zz⟩ | ⟨d, n, r, e, hn, z⟩
  · refine ⟨_, rfl, .inl ⟨b, p', q', rfl, ⟨dy, hb⟩, ?_⟩⟩
    kct_strs
    refine fldw_raw T.iC.cl T.an ha rfl ?_
    kct_strs
    refine fldw_raw T.iC.cl T.ad hb rfl ?_
    kct_strs
    refine opw_mul (.inr (by omega)) ?_
    kct_strs
    refine fldw_raw T.iC.cl T.an hb rfl ?_
    kct_strs
    refine fldw_raw T.iC.cl T.ad ha rfl ?_
    kct_strs
    refine opw_mul (.inl (by omega)) ?_
    kct_strs
    refine fldw_raw T.iC.cl T.ad ha rfl ?_
    kct_strs
    refine fldw_raw T.iC.cl T.ad hb rfl ?_
    kct_strs
    refine opw_mul (.inl (by omega)) ?_
    kct_strs
    intro x dx2 H2 hx0 s2 hx hdx hne
    refine init_use hx0 s2 hx (small_mul hq hq') (fun e d H' hd sd ed σ => zz e d H' (s2.trans sd) ed) (fun e H' s' r => z e x H' s' r)
  · exact ⟨_, rfl, .inr ⟨d, n, r, e, hn, fun σ => z⟩⟩
theorem scM3 : FnScope ["self", "other"] ["self", "other"] (defScope (inC 8 3)) := ⟨rfl, rfl, rfl, by decide +kernel, rfl, by decide +kernel, by decide +kernel⟩
theorem ok_mul {f Fa M R C : Addr} {fd : FuncData} (F : Fun K "__mul__" "Ratio.__mul__" (inC 8 3) f fd) (T : Cls4 K mg Fa M R C) (X1 : CalX P w K mg base 1 "check_ratio" (spChk K M C) []) (m1 : MakX P w K mg base (L2.CX P w) 3 "Ratio" C (spInit (K := K) M R C)) : FnOk P w K mg base (L2.CX P w) 5 f fd ["self", "other"] (spOp K M R C (fun p q p' q' => p * p') (fun p q p' q' => q * q')) := by
  refine okXS F scM3 (fun vs H Q E ⟨_, _, _, _, e, _⟩ => by rw [e]; rfl) ?_
  rintro cdv A outer s H _ Q E hr ⟨a, y, p, q, rfl, ⟨dx, ha⟩, hq, h⟩ hN nd tk
  change QB _ (_ :: _ :: []) _ [some _, some _] _
  kct_strs
  rcases h with ⟨b, p', q', rfl, ⟨dy, hb⟩, hp', hq', z, zz⟩ | ⟨d, n, r, e, hn, z⟩
  · refine ⟨_, rfl, .inl ⟨b, p', q', rfl, ⟨dy, hb⟩, ?_⟩⟩
    kct_strs
    refine fldw_raw T.iC.cl T.an ha rfl ?_
    kct_strs
    refine fldw_raw T.iC.cl T.an hb rfl ?_
    kct_strs
    refine opw_mul (.inr (by omega)) ?_
    kct_strs
    refine fldw_raw T.iC.cl T.ad ha rfl ?_
    kct_strs
    refine fldw_raw T.iC.cl T.ad hb rfl ?_
    kct_strs
    refine opw_mul (.inl (by omega)) ?_
    kct_strs
    intro x dx2 H2 hx0 s2 hx hdx hne
    refine init_use hx0 s2 hx (small_mul hq hq') (fun e d H' hd sd ed σ => zz e d H' (s2.trans sd) ed) (fun e H' s' r => z e x H' s' r)
  · exact ⟨_, rfl, .inr ⟨d, n, r, e, hn, fun σ => z⟩⟩
theorem scM8 : FnScope ["self", "other"] ["self", "other"] (defScope (inC 8 8)) := ⟨rfl, rfl, rfl, by decide +kernel, rfl, by decide +kernel, by decide +kernel⟩
theorem ok_over {f Fa M R C : Addr} {fd : FuncData} (F : Fun K "over" "Ratio.over" (inC 8 8) f fd) (T : Cls4 K mg Fa M R C) (X1 : CalX P w K mg base 1 "check_ratio" (spChk K M C) []) (m1 : MakX P w K mg base (L2.CX P w) 3 "Ratio" C (spInit (K := K) M R C)) : FnOk P w K mg base (L2.CX P w) 5 f fd ["self", "other"] (spOp K M R C (fun p q p' q' => p * q') (fun p q p' q' => q * p')) := by
  refine okXS F scM8 (fun vs H Q E ⟨_, _, _, _, e, _⟩ => by rw [e]; rfl) ?_
  rintro cdv A outer s H _ Q E hr ⟨a, y, p, q, rfl, ⟨dx, ha⟩, hq, h⟩ hN nd tk
  change QB _ (_ :: _ :: []) _ [some _, some _] _
  kct_strs
  rcases h with ⟨b, p', q', rfl, ⟨dy, hb⟩, hp', hq', z, zz⟩ | ⟨d, n, r, e, hn, z⟩
  · refine ⟨_, rfl, .inl ⟨b, p', q', rfl, ⟨dy, hb⟩, ?_⟩⟩
    kct_strs
    refine fldw_raw T.iC.cl T.an ha rfl ?_
    kct_strs
    refine fldw_raw T.iC.cl T.ad hb rfl ?_
    kct_strs
    refine opw_mul (.inr (by omega)) ?_
    kct_strs
    refine fldw_raw T.iC.cl T.ad ha rfl ?_
    kct_strs
    refine fldw_raw T.iC.cl T.an hb rfl ?_
    kct_strs
    refine opw_mul (.inl (by omega)) ?_
    kct_strs
    intro x dx2 H2 hx0 s2 hx hdx hne
    refine init_use hx0 s2 hx (small_mul hq hp') (fun e d H' hd sd ed σ => zz e d H' (s2.trans sd) ed) (fun e H' s' r => z e x H' s' r)
  · exact ⟨_, rfl, .inr ⟨d, n, r, e, hn, fun σ => z⟩⟩
end
section
variable {P : Program} {w : World} {K : PySem.W.Frag} {mg : Str → Option Value} {base : Heap}
/-- a ratio made of one: N what its number becomes -/
def spUn (C : Addr) (N : Int → Int) : Sp := fun vs H Q _ => ∃ (a : Addr) (p q : Int), vs = [.ref a] ∧ Rt C H a p q ∧ q.natAbs < 16384 ∧ q ≠ 0 ∧ ∀ c H', Same H H' → Rt C H' c (rp (N p) q) (rq (N p) q) → Q (.ref c) H'
def spTimes (C : Addr) : Sp := fun vs H Q _ => ∃ (a : Addr) (p q k : Int), vs = [.ref a, .int k] ∧ Rt C H a p q ∧ q.natAbs < 16384 ∧ q ≠ 0 ∧ k.natAbs < 16384 ∧ ∀ c H', Same H H' → Rt C H' c (rp (p * k) q) (rq (p * k) q) → Q (.ref c) H'
theorem scM4 : FnScope ["self"] ["self"] (defScope (inC 8 4)) := ⟨rfl, rfl, rfl, by decide +kernel, rfl, by decide +kernel, by decide +kernel⟩
theorem ok_neg {f Fa M R C : Addr} {fd : FuncData} (F : Fun K "__neg__" "Ratio.__neg__" (inC 8 4) f fd) (T : Cls4 K mg Fa M R C) (m1 : MakX P w K mg base (L2.CX P w) 3 "Ratio" C (spInit (K := K) M R C))  : FnOk P w K mg base (L2.CX P w) 5 f fd ["self"] (spUn C fun p => -p) := by
  refine okXS F scM4 (fun vs H Q E ⟨_, _, _, e, _⟩ => by rw [e]; rfl) ?_
  rintro cdv A outer s H _ Q E hr ⟨a, p, q, rfl, ⟨dx, ha⟩, hq, hq0, z⟩ hN nd tk
  change QB _ (_ :: []) _ [some _] _
  kct_strs
  refine fldw_raw T.iC.cl T.an ha rfl ?_
  kct_strs
  refine fldw_raw T.iC.cl T.ad ha rfl ?_
  kct_strs
  intro x dx2 H2 hx0 s2 hx hdx hne
  exact init_use hx0 s2 hx (by omega) (fun e => absurd e hq0) (fun e H' s' r => z x H' s' r)
theorem scM14 : FnScope ["self"] ["self"] (defScope (inC 8 14)) := ⟨rfl, rfl, rfl, by decide +kernel, rfl, by decide +kernel, by decide +kernel⟩
theorem ok_size {f Fa M R C : Addr} {fd : FuncData} (F : Fun K "size" "Ratio.size" (inC 8 14) f fd) (T : Cls4 K mg Fa M R C) (m1 : MakX P w K mg base (L2.CX P w) 3 "Ratio" C (spInit (K := K) M R C)) (m2 : mg "abs" = none) : FnOk P w K mg base (L2.CX P w) 5 f fd ["self"] (spUn C fun p => if p < 0 then -p else p) := by
  refine okXS F scM14 (fun vs H Q E ⟨_, _, _, e, _⟩ => by rw [e]; rfl) ?_
  rintro cdv A outer s H _ Q E hr ⟨a, p, q, rfl, ⟨dx, ha⟩, hq, hq0, z⟩ hN nd tk
  change QB _ (_ :: []) _ [some _] _
  kct_strs
  refine fldw_raw T.iC.cl T.an ha rfl ?_
  kct_strs
  refine fldw_raw T.iC.cl T.ad ha rfl ?_
  kct_strs
  intro x dx2 H2 hx0 s2 hx hdx hne
  exact init_use hx0 s2 hx (by omega) (fun e => absurd e hq0) (fun e H' s' r => z x H' s' r)
theorem scM9 : FnScope ["self", "k"] ["self", "k"] (defScope (inC 8 9)) := ⟨rfl, rfl, rfl, by decide +kernel, rfl, by decide +kernel, by decide +kernel⟩
theorem ok_times {f Fa M R C : Addr} {fd : FuncData} (F : Fun K "times" "Ratio.times" (inC 8 9) f fd) (T : Cls4 K mg Fa M R C) (m1 : MakX P w K mg base (L2.CX P w) 3 "Ratio" C (spInit (K := K) M R C))  : FnOk P w K mg base (L2.CX P w) 5 f fd ["self", "k"] (spTimes C) := by
  refine okXS F scM9 (fun vs H Q E ⟨_, _, _, _, e, _⟩ => by rw [e]; rfl) ?_
  rintro cdv A outer s H _ Q E hr ⟨a, p, q, k, rfl, ⟨dx, ha⟩, hq, hq0, hk, z⟩ hN nd tk
  change QB _ (_ :: []) _ [some _, some _] _
  kct_strs
  refine fldw_raw T.iC.cl T.an ha rfl ?_
  kct_strs
  refine opw_mul (.inr (by omega)) ?_
  kct_strs
  refine fldw_raw T.iC.cl T.ad ha rfl ?_
  kct_strs
  intro x dx2 H2 hx0 s2 hx hdx hne
  exact init_use hx0 s2 hx (by omega) (fun e => absurd e hq0) (fun e H' s' r => z x H' s' r)
theorem scM5 : FnScope ["self", "other"] ["self", "other"] (defScope (inC 8 5)) := ⟨rfl, rfl, rfl, by decide +kernel, rfl, by decide +kernel, by decide +kernel⟩
def spEqR (K : PySem.W.Frag) (C : Addr) : Sp := fun vs H Q _ => ∃ (a : Addr) (y : V) (p q : Int), vs = [.ref a, y] ∧ Rt C H a p q ∧ ((∃ b p' q', y = .ref b ∧ Rt C H b p' q' ∧ ∀ c : Bool, (c = true ↔ p = p' ∧ q = q') → Q (.bl c) H) ∨ (∃ d n, Rp K H y d ∧ d.ty = some n ∧ n ≠ "list" ∧ Q (.bl false) H))
theorem ok_eq {f Fa M R C : Addr} {fd : FuncData} (F : Fun K "__eq__" "Ratio.__eq__" (inC 8 5) f fd) (T : Cls4 K mg Fa M R C) (m1 : mg "isinstance" = none) : FnOk P w K mg base CX0 1 f fd ["self", "other"] (spEqR K C) := by
  refine okS F scM5 (fun vs H Q E ⟨_, _, _, _, e, _⟩ => by rw [e]; rfl) ?_
  rintro cdv A outer s H _ Q E hr ⟨a, y, p, q, rfl, ⟨dx, ha⟩, h⟩ hN nd
  have gC := T.gC
  change QB _ (_ :: []) _ [some _, some _] _
  kct_strs
  rcases h with ⟨b, p', q', rfl, ⟨dy, hb⟩, z⟩ | ⟨d, n, r, e, hn, z⟩
  · refine isi_own T.iC hb ?_
    kct_strs
    rw [if_pos rfl]
    kct_strs
    refine fldw_raw T.iC.cl T.an ha rfl ?_
    kct_strs
    refine fldw_raw T.iC.cl T.an hb rfl ?_
    kct_strs
    refine ifd (fun e1 => ?_) (fun e1 => ?_)
    · kct_strs
      refine fldw_raw T.iC.cl T.ad ha rfl ?_
      kct_strs
      refine fldw_raw T.iC.cl T.ad hb rfl ?_
      kct_strs
      exact z _ (by simp [e1])
    · exact z _ (by simp [e1])
  · refine isi_data (mg := mg) T r e hn ?_
    kct_strs
    rw [if_neg (by decide)]
    exact z
theorem scM6 : FnScope ["self", "other"] ["self", "other"] (defScope (inC 8 6)) := ⟨rfl, rfl, rfl, by decide +kernel, rfl, by decide +kernel, by decide +kernel⟩
def spLess (K : PySem.W.Frag) (M C : Addr) : Sp := fun vs H Q E => ∃ (a : Addr) (y : V) (p q : Int), vs = [.ref a, y] ∧ Rt C H a p q ∧ q.natAbs < 16384 ∧ ((∃ b p' q', y = .ref b ∧ Rt C H b p' q' ∧ q'.natAbs < 16384 ∧ Q (.bl (decide (p * q' < p' * q))) H) ∨ (∃ d n, Rp K H y d ∧ d.ty = some n ∧ n ≠ "list" ∧ E (.ref M) none H))
theorem ok_less {f Fa M R C : Addr} {fd : FuncData} (F : Fun K "less" "Ratio.less" (inC 8 6) f fd) (T : Cls4 K mg Fa M R C) (X1 : CalX P w K mg base 1 "check_ratio" (spChk K M C) []) : FnOk P w K mg base (L2.CX P w) 2 f fd ["self", "other"] (spLess K M C) := by
  refine okXS F scM6 (fun vs H Q E ⟨_, _, _, _, e, _⟩ => by rw [e]; rfl) ?_
  rintro cdv A outer s H _ Q E hr ⟨a, y, p, q, rfl, ⟨dx, ha⟩, hq, h⟩ hN nd tk
  change QB _ (_ :: _ :: []) _ [some _, some _] _
  kct_strs
  rcases h with ⟨b, p', q', rfl, ⟨dy, hb⟩, hq', z⟩ | ⟨d, n, r, e, hn, z⟩
  · refine ⟨_, rfl, .inl ⟨b, p', q', rfl, ⟨dy, hb⟩, ?_⟩⟩
    kct_strs
    refine fldw_raw T.iC.cl T.an ha rfl ?_
    kct_strs
    refine fldw_raw T.iC.cl T.ad hb rfl ?_
    kct_strs
    refine opw_mul (.inr (by omega)) ?_
    kct_strs
    refine fldw_raw T.iC.cl T.an hb rfl ?_
    kct_strs
    refine fldw_raw T.iC.cl T.ad ha rfl ?_
    kct_strs
    refine opw_mul (.inr (by omega)) ?_
    kct_strs
    exact z
  · exact ⟨_, rfl, .inr ⟨d, n, r, e, hn, fun σ => z⟩⟩
/-- what a ratio answers of itself -/
def spAns (C : Addr) (f : Int → Int → V) : Sp := fun vs H Q _ => ∃ (a : Addr) (p q : Int), vs = [.ref a] ∧ Rt C H a p q ∧ (0 < q ∧ q < 16384 ∧ p.natAbs.log2 < 1900) ∧ Q (f p q) H
theorem scM10 : FnScope ["self"] ["self"] (defScope (inC 8 10)) := ⟨rfl, rfl, rfl, by decide +kernel, rfl, by decide +kernel, by decide +kernel⟩
theorem ok_sign {f Fa M R C : Addr} {fd : FuncData} (F : Fun K "sign" "Ratio.sign" (inC 8 10) f fd) (T : Cls4 K mg Fa M R C)  : FnOk P w K mg base CX0 1 f fd ["self"] (spAns C fun p q => .int ((if 0 < p then 1 else if p < 0 then -1 else 0))) := by
  refine okS F scM10 (fun vs H Q E ⟨_, _, _, e, _⟩ => by rw [e]; rfl) ?_
  rintro cdv A outer s H _ Q E hr ⟨a, p, q, rfl, ⟨dx, ha⟩, hq, z⟩ hN nd
  change QB _ (_ :: _) _ [some _] _
  kct_strs
  refine fldw_raw T.iC.cl T.an ha rfl ?_
  kct_strs
  dsimp only at z
  refine ifd (fun e => ?_) (fun e => ?_)
  · kct_strs
    rw [if_pos e] at z
    exact z
  · kct_strs
    refine fldw_raw T.iC.cl T.an ha rfl ?_
    kct_strs
    rw [if_neg e] at z
    refine ifd (fun e1 => ?_) (fun e1 => ?_)
    · kct_strs
      rw [if_pos e1] at z
      exact z
    · kct_strs
      rw [if_neg e1] at z
      exact z
theorem scM11 : FnScope ["self"] ["self"] (defScope (inC 8 11)) := ⟨rfl, rfl, rfl, by decide +kernel, rfl, by decide +kernel, by decide +kernel⟩
theorem ok_is_zero {f Fa M R C : Addr} {fd : FuncData} (F : Fun K "is_zero" "Ratio.is_zero" (inC 8 11) f fd) (T : Cls4 K mg Fa M R C)  : FnOk P w K mg base CX0 1 f fd ["self"] (spAns C fun p q => .bl (decide (p = 0))) := by
  refine okS F scM11 (fun vs H Q E ⟨_, _, _, e, _⟩ => by rw [e]; rfl) ?_
  rintro cdv A outer s H _ Q E hr ⟨a, p, q, rfl, ⟨dx, ha⟩, hq, z⟩ hN nd
  change QB _ (_ :: _) _ [some _] _
  kct_strs
  refine fldw_raw T.iC.cl T.an ha rfl ?_
  kct_strs
  exact z
theorem scM12 : FnScope ["self"] ["self"] (defScope (inC 8 12)) := ⟨rfl, rfl, rfl, by decide +kernel, rfl, by decide +kernel, by decide +kernel⟩
theorem ok_is_whole {f Fa M R C : Addr} {fd : FuncData} (F : Fun K "is_whole" "Ratio.is_whole" (inC 8 12) f fd) (T : Cls4 K mg Fa M R C)  : FnOk P w K mg base CX0 1 f fd ["self"] (spAns C fun p q => .bl (decide (q = 1))) := by
  refine okS F scM12 (fun vs H Q E ⟨_, _, _, e, _⟩ => by rw [e]; rfl) ?_
  rintro cdv A outer s H _ Q E hr ⟨a, p, q, rfl, ⟨dx, ha⟩, hq, z⟩ hN nd
  change QB _ (_ :: _) _ [some _] _
  kct_strs
  refine fldw_raw T.iC.cl T.ad ha rfl ?_
  kct_strs
  exact z
theorem scM13 : FnScope ["self"] ["self"] (defScope (inC 8 13)) := ⟨rfl, rfl, rfl, by decide +kernel, rfl, by decide +kernel, by decide +kernel⟩
theorem ok_floor {f Fa M R C : Addr} {fd : FuncData} (F : Fun K "floor" "Ratio.floor" (inC 8 13) f fd) (T : Cls4 K mg Fa M R C)  : FnOk P w K mg base CX0 1 f fd ["self"] (spAns C fun p q => .int (p / q)) := by
  refine okS F scM13 (fun vs H Q E ⟨_, _, _, e, _⟩ => by rw [e]; rfl) ?_
  rintro cdv A outer s H _ Q E hr ⟨a, p, q, rfl, ⟨dx, ha⟩, hq, z⟩ hN nd
  change QB _ (_ :: _) _ [some _] _
  kct_strs
  refine fldw_raw T.iC.cl T.an ha rfl ?_
  kct_strs
  refine fldw_raw T.iC.cl T.ad ha rfl ?_
  kct_strs
  refine opw_div ⟨by omega, by omega⟩ ?_
  exact z
/-- how a ratio is written -/
def told (p q : Int) : Str := if q = 1 then toString p else (toString p : Str) ++ ("/" ++ (toString q : Str))
end
section
variable {P : Program} {w : World} {K : PySem.W.Frag} {mg : Str → Option Value} {base : Heap}
theorem sc19 : FnScope ["script", "seed", "total", "cell"] ["script"] (defScope (top 11)) := ⟨rfl, rfl, rfl, by decide +kernel, rfl, by decide +kernel, by decide +kernel⟩
theorem sc20 : FnScope ["state", "m", "value"] ["state", "m"] (defScope (top 12)) := ⟨rfl, rfl, rfl, by decide +kernel, rfl, by decide +kernel, by decide +kernel⟩
theorem sc21 : FnScope ["value", "due"] ["value", "due"] (defScope (top 13)) := ⟨rfl, rfl, rfl, by decide +kernel, rfl, by decide +kernel, by decide +kernel⟩
theorem sc22 : FnScope ["value"] ["value"] (defScope (top 14)) := ⟨rfl, rfl, rfl, by decide +kernel, rfl, by decide +kernel, by decide +kernel⟩
theorem sc23 : FnScope ["one", "two", "k"] ["one", "two"] (defScope (top 15)) := ⟨rfl, rfl, rfl, by decide +kernel, rfl, by decide +kernel, by decide +kernel⟩
theorem sc24 : FnScope ["a", "b"] ["a", "b"] (defScope (top 16)) := ⟨rfl, rfl, rfl, by decide +kernel, rfl, by decide +kernel, by decide +kernel⟩
theorem sc25 : FnScope ["act", "given", "refused"] ["act", "given"] (defScope (top 17)) := ⟨rfl, rfl, rfl, by decide +kernel, rfl, by decide +kernel, by decide +kernel⟩
theorem fmod_lt (a b : Int) (h : b ≠ 0) : (a.fmod b).natAbs < b.natAbs := by
  rw [Int.fmod_eq_emod]
  have h1 := Int.emod_nonneg a h
  have h2 := Int.emod_lt a h

  by_cases hc : 0 ≤ b ∨ b ∣ a
  · rw [if_pos hc]
    omega
  · rw [if_neg hc]
    have h3 : a % b ≠ 0 := fun e => hc (.inr (Int.dvd_of_emod_eq_zero e))
    have : b < 0 := by
      apply Int.not_le.mp
      intro e
      exact hc (.inl e)
    omega
def spState (K : PySem.W.Frag) : Sp := fun vs H Q _ => ∃ (v : V) (ns : List Int), vs = [v] ∧ Rp K H v (.lst (ns.map .int)) ∧ ns.length ≤ 63 ∧ ∀ (s t : Int) (p : Addr) (H' : Hp), Same H H' → H' p = some (.lst [.int s, .int t]) → Q (.ref p) H'
theorem ok_law_state {f : Addr} {fd : FuncData} (F : Fun K "_law_state" "_law_state" (top 11) f fd) (m1 : mg "abs" = none) (m2 : mg "int" = none) : FnOk P w K mg base CX0 1 f fd ["script"] (spState K) := by
  refine okS F sc19 (fun vs H Q E ⟨_, _, e, _⟩ => by rw [e]; rfl) ?_
  rintro cdv A outer s H _ Q E hr ⟨v, ns, rfl, rp, hl, q⟩ hN nd
  change QB _ (_ :: _) _ [some _, none, none, none] _
  kct_strs
  one_place
  refine we_sliceHi ?_
  kct_strs
  obtain ⟨a, xs, rfl, h1, h2⟩ := rp.lst_inv
  have hx : xs.length ≤ 63 := by rw [h2.len, List.length_map]; exact hl
  refine ⟨_, _, _, rfl, rfl, h1, fun p H1 hp s1 e1 => ?_⟩
  rw [show (63 : Int) = ((63 : Nat) : Int) from rfl, cut_all hx] at e1
  refine ⟨ns.map .int, .lstOf e1 (h2.to s1), fun k σ H' => ∃ (x y : Int) (z : Option V), Same H1 H' ∧ σ = [some (.ref a), some (.int x), some (.int y), z], ⟨_, _, _, Same.refl _, rfl⟩, fun k σ H' ⟨_, _, _, s, _⟩ => s, ?_, ?_⟩
  · rintro k d u σ1 H2 hd ⟨x, y, z, s2, rfl⟩ r
    rw [List.getElem?_map] at hd
    cases hk : ns[k]? with
    | none => rw [hk] at hd; cases hd
    | some n =>
      rw [hk] at hd
      cases hd
      cases r
      show QG _ _ _ _ _ _
      kct_strs
      refine opw_mul (.inr (by omega)) ?_
      kct_strs
      refine opw_mul (.inr (by omega)) ?_
      kct_strs
      refine opw_mod (by omega) ?_
      kct_strs
      exact ⟨_, _, _, s2, rfl⟩
  · rintro σ1 H2 ⟨x, y, z, s2, rfl⟩
    kct_strs
    refine ifn (fun _ => ?_) (fun _ => ?_)
    · kct_strs
      refine ⟨Nat.le_of_ble_eq_true rfl, fun p3 H3 hp3 s3 e3 => ?_⟩
      exact q _ _ p3 H3 ((s1.trans s2).trans s3) e3
    · kct_strs
      refine ⟨Nat.le_of_ble_eq_true rfl, fun p3 H3 hp3 s3 e3 => ?_⟩
      exact q _ _ p3 H3 ((s1.trans s2).trans s3) e3
theorem ok_law_take {f : Addr} {fd : FuncData} (F : Fun K "_law_take" "_law_take" (top 12) f fd) (m2 : mg "int" = none) : FnOk P w K mg base CX0 1 f fd ["state", "m"] spTake := by
  refine okS F sc20 (fun vs H Q E ⟨_, _, e, _⟩ => by rw [e]; rfl) ?_
  rintro cdv A outer s H _ Q E hr ⟨a, m, rfl, hm, ⟨s0, t0, e0⟩, q⟩ hN nd
  change QB _ (_ :: _) _ [some _, some _, none] _
  have u1 : ∀ x : Int, (upd H a (.lst [.int x, .int t0])) a = some (.lst [.int x, .int t0]) := fun x => upd_same
  kct_strs
  refine ixw_sl (.inl (.inl e0)) rfl ?_
  kct_strs
  refine ifd (fun h0 => ?_) (fun h0 => ?_)
  · kct_strs
    refine ixw_sl (.inl (.inl e0)) rfl ?_
    kct_strs
    refine opw_mod (by omega) ?_
    kct_strs
    refine ixw_sl (.inl (.inl e0)) rfl ?_
    kct_strs
    refine opw_div (by exact hm) ?_
    kct_strs
    refine setw_lst e0 rfl ?_
    kct_strs
    refine q _ _ (Int.emod_nonneg _ (by omega)) (Int.emod_lt_of_pos _ (by omega)) ⟨fun b o n e => by rw [upd_ne n]; exact e, _, _, upd_same⟩
  · kct_strs
    refine ixw_sl (.inl (.inl e0)) rfl ?_
    kct_strs
    refine opw_mul (.inr (by omega)) ?_
    kct_strs
    refine opw_mod (by omega) ?_
    kct_strs
    refine setw_lst e0 rfl ?_
    kct_strs
    refine ixw_sl (.inl (.inl upd_same)) rfl ?_
    kct_strs
    refine opw_div ⟨by omega, by omega⟩ ?_
    kct_strs
    refine opw_mod (by omega) ?_
    kct_strs
    refine q _ _ (Int.emod_nonneg _ (by omega)) (Int.emod_lt_of_pos _ (by omega)) ⟨fun b o n e => by rw [upd_ne n]; exact e, _, _, upd_same⟩
def spSays : Sp := fun vs H Q _ => ∃ b c : Bool, vs = [.bl b, .bl c] ∧ Q (.bl (decide (b = c))) H
theorem ok_law_says {f : Addr} {fd : FuncData} (F : Fun K "_law_says" "_law_says" (top 13) f fd) (m1 : mg "isinstance" = none) (m2 : mg "bool" = none) : FnOk P w K mg base CX0 1 f fd ["value", "due"] spSays := by
  refine okS F sc21 (fun vs H Q E ⟨_, _, e, _⟩ => by rw [e]; rfl) ?_
  rintro cdv A outer s H _ Q E hr ⟨b, c, rfl, q⟩ hN nd
  change QB _ (_ :: _) _ [some _, some _] _
  have rp : Rp K H (.bl b) (.bl b) := .bl b
  kct_strs
  refine ifb (fun _ => ?_) (fun e => by cases e)
  kct_strs
  exact q
theorem ok_law_is_whole {f : Addr} {fd : FuncData} (F : Fun K "_law_is_whole" "_law_is_whole" (top 14) f fd) (m1 : mg "isinstance" = none) (m2 : mg "int" = none) (m3 : mg "bool" = none) : FnOk P w K mg base CX0 1 f fd ["value"] (spWhole K) := by
  refine okS F sc22 (fun vs H Q E ⟨_, _, e, _⟩ => by rw [e]; rfl) ?_
  rintro cdv A outer s H _ Q E hr ⟨v, d, rfl, rp, hd, q⟩ hN nd
  change QB _ (_ :: _) _ [some _] _
  kct_strs
  refine ifb (fun e1 => ?_) (fun e1 => ?_)
  · kct_strs
    rw [D.whole_eq, e1] at q
    exact q
  · rw [D.whole_eq, e1] at q
    exact q
def spSame : Sp := fun vs H Q _ => (∃ i j : Int, vs = [.int i, .int j] ∧ Q (.bl (decide (i = j))) H) ∨ (∃ x y : Str, vs = [.str x, .str y] ∧ Q (.bl (decide (x = y))) H)
theorem ok_law_same {f : Addr} {fd : FuncData} (F : Fun K "_law_same" "_law_same" (top 15) f fd) (m1 : mg "isinstance" = none) (m2 : mg "tuple" = none) (m3 : mg "str" = none) (c1 : Cal P w K mg base 1 "_law_is_whole" (spWhole K) []) : FnOk P w K mg base CX0 2 f fd ["one", "two"] spSame := by
  refine okS F sc23 (fun vs H Q E h => by rcases h with ⟨_, _, e, _⟩ | ⟨_, _, e, _⟩ <;> rw [e] <;> rfl) ?_
  rintro cdv A outer s H _ Q E hr (⟨i, j, rfl, q⟩ | ⟨x, y, rfl, q⟩) hN nd
  · change QB _ (_ :: _) _ [some _, some _, none] _
    have r1 : Rp K H (.int i) (.int i) := .int i
    have r2 : Rp K H (.int j) (.int j) := .int j
    kct_strs
    refine ifb (fun e => by cases e) (fun _ => ?_)
    kct_strs
    refine ifb (fun e => by cases e) (fun _ => ?_)
    kct_strs
    refine ifb (fun e => by cases e) (fun _ => ?_)
    kct_strs
    refine ⟨_, _, rfl, r1, rfl, ?_⟩
    kct_strs
    refine ifb (fun _ => ?_) (fun e => by cases e)
    kct_strs
    exact q
  · change QB _ (_ :: _) _ [some _, some _, none] _
    have r1 : Rp K H (.str x) (.str x) := .str x
    have r2 : Rp K H (.str y) (.str y) := .str y
    kct_strs
    refine ifb (fun e => by cases e) (fun _ => ?_)
    kct_strs
    refine ifb (fun _ => ?_) (fun e => by cases e)
    kct_strs
    refine ifb (fun _ => ?_) (fun e => by cases e)
    kct_strs
    exact q
theorem ok_law_common {f : Addr} {fd : FuncData} (F : Fun K "_law_common" "_law_common" (top 16) f fd) (m1 : mg "abs" = none) (m2 : mg "int" = none) : FnOk P w K mg base CX0 1 f fd ["a", "b"] spCommon := by
  refine okS F sc24 (fun vs H Q E ⟨_, _, e, _⟩ => by rw [e]; rfl) ?_
  rintro cdv A outer s H _ Q E hr ⟨a, b, rfl, q⟩ hN nd
  change QB _ (_ :: _) _ [some _, some _] _
  kct_strs
  refine ws_while (fun σ1 H1 => ∃ a1 b1 : Int, σ1 = [some (.int a1), some (.int b1)] ∧ H = H1 ∧ Int.gcd a1 b1 = Int.gcd a b) (fun σ1 _ => match σ1 with | [_, some (.int b)] => b.natAbs | _ => 0) PassesOwn.never ?_ ?_
  · exact ⟨_, _, rfl, rfl, rfl⟩
  · rintro _ H1 ⟨a1, b1, rfl, rfl, hg⟩
    kct_strs
    refine ifn (fun hb => ?_) (fun hb => ?_)
    · kct_strs
      refine opw_modN hb ?_
      kct_strs
      refine ⟨⟨_, _, rfl, rfl, ?_⟩, ?_⟩
      · rw [← hg, Int.fmod_def, Int.gcd_sub_mul_left_right, Int.gcd_comm]
      · exact fmod_lt a1 b1 hb
    · subst hb
      kct_strs
      rw [Int.gcd_zero_right] at hg
      rw [← hg] at q
      rw [show (if a1 < 0 then -a1 else a1) = (a1.natAbs : Int) by split <;> omega]
      exact q
theorem scT : FnScope ["self"] ["self"] (defScope (inC 8 7)) := ⟨rfl, rfl, rfl, by decide +kernel, rfl, by decide +kernel, by decide +kernel⟩
theorem int_len {i : Int} {k : Nat} (hk : 0 < k) (h : i.natAbs.log2 < k) : (toString i : Str).length ≤ k + 1 := by
  have := PySem.int_text_length_le hk h
  show (PySem.Str.ofString (toString i)).length ≤ k + 1
  rw [PySem.ofString_length]
  exact this
theorem ok_str {f Fa M R C : Addr} {fd : FuncData} (F : Fun K "__str__" "Ratio.__str__" (inC 8 7) f fd) (T : Cls4 K mg Fa M R C) (m1 : mg "str" = none) : FnOk P w K mg base CX0 1 f fd ["self"] (spAns C fun p q => .str (told p q)) := by
  refine okS F scT (fun vs H Q E ⟨_, _, _, e, _⟩ => by rw [e]; rfl) ?_
  rintro cdv A outer s H _ Q E hr ⟨a, p, q, rfl, ⟨dx, ha⟩, hq, z⟩ hN nd
  change QB _ (_ :: _) _ [some _] _
  dsimp only [told] at z
  have h1 := int_len (i := p) (k := 1900) (by omega) hq.2.2
  have hl : q.natAbs.log2 < 14 := (Nat.log2_lt (by omega)).mpr (show q.natAbs < 2 ^ 14 by omega)
  have h2 := int_len (i := q) (k := 14) (by omega) hl
  kct_strs
  refine fldw_raw T.iC.cl T.ad ha rfl ?_
  kct_strs
  refine ifd (fun e => ?_) (fun e => ?_)
  · kct_strs
    refine fldw_raw T.iC.cl T.an ha rfl ?_
    kct_strs
    refine callw_strI (by omega) ?_
    rw [if_pos e] at z
    exact z
  · kct_strs
    refine we_joined3 ?_
    refine we_fmt ?_
    have hz : (4000 : Nat) < sizeLine := by decide
    kct_strs
    refine fldw_raw T.iC.cl T.an ha rfl ?_
    kct_strs
    refine ⟨by omega, _, rfl, by omega, ?_⟩
    kct_strs
    refine ⟨by rw [show (("/" : Str)).length = 1 from rfl]; omega, ?_⟩
    refine we_fmt ?_
    kct_strs
    refine fldw_raw T.iC.cl T.ad ha rfl ?_
    kct_strs
    refine ⟨by omega, _, rfl, by rw [show (("/" : Str)).length = 1 from rfl]; omega, ?_⟩
    rw [if_neg e] at z
    exact z
end
section
variable {P : Program} {w : World} {K : PySem.W.Frag} {mg : Str → Option Value} {base : Heap}
theorem scS : FnScope ["c"] ["c"] (defScope (top 18)) := ⟨rfl, rfl, rfl, by decide +kernel, rfl, by decide +kernel, by decide +kernel⟩
theorem scMd : FnScope ["n", "d"] ["n", "d"] (defScope (top 19)) := ⟨rfl, rfl, rfl, by decide +kernel, rfl, by decide +kernel, by decide +kernel⟩
theorem scDid : FnScope ["word", "a", "b"] ["word", "a", "b"] (defScope (top 20)) := ⟨rfl, rfl, rfl, by decide +kernel, rfl, by decide +kernel, by decide +kernel⟩
theorem scFit : FnScope ["x", "n", "d"] ["x", "n", "d"] (defScope (top 21)) := ⟨rfl, rfl, rfl, by decide +kernel, rfl, by decide +kernel, by decide +kernel⟩
/-- what _law_result promises: the def at fA is asked with the items of the tuple; G, B what it may bring -/
def spRes (P : Program) (w : World) (K : PySem.W.Frag) (mg : Str → Option Value) (base : Heap) (M R : Addr) : Sp := fun vs H Q _ => ∃ (fA v : Addr) (fdA : FuncData) (psA : List Str) (spA : Sp) (xs : List V) (G : V → Hp → Prop) (B : Value → Option Addr → Hp → Prop),
  vs = [.ref fA, .ref v] ∧ FnOk P w K mg base (L2.CX P w) 8 fA fdA psA spA ∧ PySem.W.keepIn K (.ref fA) = true ∧ Binds K fdA psA [] ∧ SqT K H v xs ∧ (xs.length = 2 ∨ xs.length = 3) ∧
  (∀ Q' E', (∀ u H1, G u H1 → Q' u H1) → (∀ c d H1, B c d H1 → E' c d H1) → spA xs H Q' E') ∧
  (∀ u H1 p H', G u H1 → Same H1 H' → H' p = some (.tup [.str "told", u]) → Q (.ref p) H') ∧
  (∀ c d H1, B c d H1 → (c = .ref M ∧ ∀ p H', Same H1 H' → H' p = some (.tup [.str "malformed", .non]) → Q (.ref p) H') ∨
    (c = .ref R ∧ ∃ dd z, d = some dd ∧ H1 dd = some (.xd [("reason", .str z)]) ∧ ∀ p H', Same H1 H' → H' p = some (.tup [.str "refused", .str z]) → Q (.ref p) H'))
theorem ok_law_result {f Fa M R C : Addr} {fd : FuncData} (F : Fun K "_law_result" "_law_result" (top 17) f fd) (T : Cls4 K mg Fa M R C) (m1 : mg "len" = none) : FnOk P w K mg base CX0 9 f fd ["act", "given"] (spRes P w K mg base M R) := by
  refine okS F sc25 (fun vs H Q E ⟨_, _, _, _, _, _, _, _, e, _⟩ => by rw [e]; rfl) ?_
  rintro cdv A outer s H _ Q E hr ⟨fA, v, fdA, psA, spA, xs, G, B, rfl, FA, kA, bA, hx, hl, hs, qG, qB⟩ hN nd
  change QB _ (_ :: _) _ [some _, some _, none] _
  kct_strs
  refine ws_try (W := fun _ _ _ _ => False) rfl rfl takes0 (.bare ⟨rfl, by decide, .inl T.gM⟩ su_sem (.as (i := 2) ⟨rfl, by decide, .inl T.gR⟩ nd rfl rfl su_sem .nil)) ?_
  intro pn xe tk hp
  have bad : ∀ c d H1, B c d H1 → wMix K (fun _ _ _ _ => False) { nx := fun x H' => Q V.non H', rt := Q } [(Value.ref M, none, SU (cxOf CX0 P w K mg base ["act", "given", "refused"] "_law_result" (defScope (top 17)) f cdv A outer s H E).nox (match (defBody (top 17)).getD 0 (.Pass ⟨0, 0, 0, 0⟩) with | .Try _ (.ExceptHandler _ _ b _ :: _) _ _ _ => b | _ => [])), (Value.ref R, some 2, SU (cxOf CX0 P w K mg base ["act", "given", "refused"] "_law_result" (defScope (top 17)) f cdv A outer s H E).nox (match (defBody (top 17)).getD 0 (.Pass ⟨0, 0, 0, 0⟩) with | .Try _ (_ :: .ExceptHandler _ _ b _ :: _) _ _ _ => b | _ => []))] c d [some (.ref fA), some (.ref v), none] H1 := by
    intro c d H1 hB
    rcases qB c d H1 hB with ⟨rfl, z⟩ | ⟨rfl, dd, y, rfl, hd, z⟩
    · refine ⟨true, T.eMM, fun _ a ha => ?_, fun e => by cases e⟩
      intro o pn hz hf
      change QB _ (_ :: []) _ [some _, some _, none] _
      kct_strs
      exact ⟨Nat.le_of_ble_eq_true rfl, fun p H2 hp s2 e2 => z p H2 s2 e2⟩
    · refine ⟨false, T.eRM, (fun e => by cases e), fun _ => ⟨true, T.eRR, fun _ a ha => ?_, fun e => by cases e⟩⟩
      intro o pn hz hf
      change QB _ (_ :: []) _ [some _, some _, some _] _
      refine wss_one (ws_ret (we_tup (wa_cons rfl (we_str (wa_cons rfl (we_xf T.xR T.nR hz hf rfl ?_))))))
      kct_strs
      refine ⟨rfl, dd, _, .str y, rfl, hd, rfl, ?_⟩
      kct_strs
      exact ⟨Nat.le_of_ble_eq_true rfl, fun p H2 hp s2 e2 => z p H2 s2 e2⟩
  kct_strs
  refine callw_len_st hx ?_
  kct_strs
  have hl1 : (xs.length : Int) ≠ 1 := by omega
  refine ifd (fun e => absurd e hl1) (fun _ => ?_)
  kct_strs
  refine callw_len_st hx ?_
  kct_strs
  refine ifd (fun e => ?_) (fun e => ?_)
  · obtain ⟨x0, x1, rfl⟩ : ∃ x0 x1, xs = [x0, x1] := by
      match xs, e with
      | [x0, x1], _ => exact ⟨x0, x1, rfl⟩
    kct_strs
    refine we_callLS (i := 0) FA kA bA tk hr (by decide) (by infer_instance) hN (.inl rfl) ?_ (by decide) (by decide) rfl rfl
    kct_strs
    refine ixw_st hx (v := x0) rfl ?_
    kct_strs
    refine ixw_st hx (v := x1) rfl ?_
    kct_strs
    refine hs _ _ (fun u H1 hG => ?_) bad
    kct_strs
    exact ⟨Nat.le_of_ble_eq_true rfl, fun p H2 hp s2 e2 => qG u H1 p H2 hG s2 e2⟩
  · kct_strs
    refine callw_len_st hx ?_
    kct_strs
    refine ifd (fun e => ?_) (fun e => ?_)
    · obtain ⟨x0, x1, x2, rfl⟩ : ∃ x0 x1 x2, xs = [x0, x1, x2] := by
        match xs, e with
        | [x0, x1, x2], _ => exact ⟨x0, x1, x2, rfl⟩
      kct_strs
      refine we_callLS (i := 0) FA kA bA tk hr (by decide) (by infer_instance) hN (.inl rfl) ?_ (by decide) (by decide) rfl rfl
      kct_strs
      refine ixw_st hx (v := x0) rfl ?_
      kct_strs
      refine ixw_st hx (v := x1) rfl ?_
      kct_strs
      refine ixw_st hx (v := x2) rfl ?_
      kct_strs
      refine hs _ _ (fun u H1 hG => ?_) bad
      kct_strs
      exact ⟨Nat.le_of_ble_eq_true rfl, fun p H2 hp s2 e2 => qG u H1 p H2 hG s2 e2⟩
    · omega
end
section
variable {P : Program} {w : World} {K : PySem.W.Frag} {mg : Str → Option Value} {base : Heap}
def spSgn : Sp := fun vs H Q _ => ∃ c : Int, vs = [.int c] ∧ Q (.int (if 0 < c then 1 else if c < 0 then -1 else 0)) H
theorem ok_sign_at {f : Addr} {fd : FuncData} (F : Fun K "_law_sign_at" "_law_sign_at" (top 18) f fd) : FnOk P w K mg base CX0 1 f fd ["c"] spSgn := by
  refine okS F scS (fun vs H Q E ⟨_, e, _⟩ => by rw [e]; rfl) ?_
  rintro cdv A outer s H _ Q E hr ⟨c, rfl, z⟩ hN nd
  change QB _ (_ :: _) _ [some _] _
  kct_strs
  refine ifd (fun e => ?_) (fun e => ?_)
  · kct_strs
    rw [if_pos e] at z
    exact z
  · kct_strs
    rw [if_neg e] at z
    refine ifd (fun e1 => ?_) (fun e1 => ?_)
    · kct_strs
      rw [if_pos e1] at z
      exact z
    · kct_strs
      rw [if_neg e1] at z
      exact z
def spFits (C : Addr) : Sp := fun vs H Q _ => ∃ (a : Addr) (p q n d : Int), vs = [.ref a, .int n, .int d] ∧ Rt C H a p q ∧ (0 < q ∧ q < 16384) ∧ Int.gcd p q = 1 ∧ d.natAbs < 16384 ∧ Q (.bl (decide (p * d = n * q))) H
theorem ok_fits {f Fa M R C : Addr} {fd : FuncData} (F : Fun K "_law_fits" "_law_fits" (top 21) f fd) (T : Cls4 K mg Fa M R C) (m1 : mg "isinstance" = none) (c1 : Cal P w K mg base 1 "_law_is_whole" (spWhole K) []) (c2 : Cal P w K mg base 1 "_law_common" spCommon []) : FnOk P w K mg base CX0 2 f fd ["x", "n", "d"] (spFits C) := by
  refine okS F scFit (fun vs H Q E ⟨_, _, _, _, _, e, _⟩ => by rw [e]; rfl) ?_
  rintro cdv A outer s H _ Q E hr ⟨a, p, q, n, d, rfl, ⟨dx, ha⟩, hq, hg, hd, z⟩ hN nd
  have gC := T.gC
  change QB _ (_ :: _) _ [some _, some _, some _] _
  kct_strs
  refine isi_own T.iC ha ?_
  kct_strs
  rw [if_neg (by decide)]
  kct_strs
  refine fldw_raw T.iC.cl T.an ha rfl ?_
  kct_strs
  refine ⟨_, _, rfl, .int p, rfl, ?_⟩
  kct_strs
  refine ifnb (fun e => by cases e) (fun _ => ?_)
  kct_strs
  refine fldw_raw T.iC.cl T.ad ha rfl ?_
  kct_strs
  refine ⟨_, _, rfl, .int q, rfl, ?_⟩
  kct_strs
  refine ifnb (fun e => by cases e) (fun _ => ?_)
  kct_strs
  refine fldw_raw T.iC.cl T.ad ha rfl ?_
  kct_strs
  refine ifd (fun e => by omega) (fun _ => ?_)
  kct_strs
  refine fldw_raw T.iC.cl T.an ha rfl ?_
  kct_strs
  refine fldw_raw T.iC.cl T.ad ha rfl ?_
  kct_strs
  refine ⟨_, _, rfl, ?_⟩
  kct_strs
  refine ifn (fun e => absurd (by rw [hg]; rfl) e) (fun _ => ?_)
  kct_strs
  refine fldw_raw T.iC.cl T.an ha rfl ?_
  kct_strs
  refine opw_mul (.inr (by omega)) ?_
  kct_strs
  refine fldw_raw T.iC.cl T.ad ha rfl ?_
  kct_strs
  refine opw_mul (.inr (by omega)) ?_
  kct_strs
  exact z
/-- a ratio asked for by two things -/
def spMade (K : PySem.W.Frag) (M R C : Addr) : Sp := fun vs H Q E => ∃ (x y : V) (d1 d2 : D), vs = [x, y] ∧ Rp K H x d1 ∧ Rp K H y d2 ∧ d1.ty.isSome = true ∧ d2.ty.isSome = true ∧ (∀ j, d2 = .int j → j.natAbs < 1073741824) ∧
  ((d1.whole && d2.whole) = false → ∀ H', Same H H' → E (.ref M) none H') ∧ (∀ n, d1 = .int n → d2 = .int 0 → ∀ d H', Same H H' → H' d = some (.xd [("reason", .str "zero")]) → E (.ref R) (some d) H') ∧
  (∀ n m, d1 = .int n → d2 = .int m → m ≠ 0 → ∀ c H', Same H H' → Rt C H' c (rp n m) (rq n m) → Q (.ref c) H')
theorem ok_made {f Fa M R C : Addr} {fd : FuncData} (F : Fun K "_law_made" "_law_made" (top 19) f fd) (T : Cls4 K mg Fa M R C) (m1 : MakX P w K mg base (L2.CX P w) 3 "Ratio" C (spInit (K := K) M R C)) : FnOk P w K mg base (L2.CX P w) 5 f fd ["n", "d"] (spMade K M R C) := by
  refine okXS F scMd (fun vs H Q E ⟨_, _, _, _, e, _⟩ => by rw [e]; rfl) ?_
  rintro cdv A outer s H _ Q E hr ⟨x, y, d1, d2, rfl, r1, r2, t1, t2, hs, qM, qR, q⟩ hN nd tk
  change QB _ (_ :: _) _ [some _, some _] _
  kct_strs
  intro a dx H2 ha0 s2 ha hdx hne
  refine ⟨a, dx, x, y, d1, d2, rfl, ha, r1.to s2, r2.to s2, t1, t2, hs, fun e σ => ?_, fun n e1 e2 d H' hd sd ed σ => qR n e1 e2 d H' (s2.trans sd) ed, fun n m e1 e2 hm H' k1 k2 => ⟨rfl, q n m e1 e2 hm a H' (fun b o hb => k1 b o (ne_of_none hb ha0) (s2 b o hb)) ⟨dx, k2⟩⟩⟩
  exact qM e _ s2
/-- _law_did: over of two ratios, or any word of a ratio and another thing -/
def spDid (K : PySem.W.Frag) (M R C : Addr) : Sp := fun vs H Q E => ∃ (z : Str) (a : Addr) (y : V) (p q : Int), vs = [.str z, .ref a, y] ∧ Rt C H a p q ∧ q.natAbs < 16384 ∧
  ((z = "over" ∧ ∃ b p' q', y = .ref b ∧ Rt C H b p' q' ∧ p'.natAbs < 16384 ∧ q'.natAbs < 16384 ∧ (q * p' ≠ 0 → ∀ c H', Same H H' → Rt C H' c (rp (p * q') (q * p')) (rq (p * q') (q * p')) → Q (.ref c) H') ∧
      (q * p' = 0 → ∀ d H', Same H H' → H' d = some (.xd [("reason", .str "zero")]) → E (.ref R) (some d) H')) ∨
   ((z = "plus" ∨ z = "less" ∨ z = "times" ∨ z = "below" ∨ z = "over") ∧ ∃ d n, Rp K H y d ∧ d.ty = some n ∧ n ≠ "list" ∧ E (.ref M) none H))
theorem data_op {X : Cx} {W : WX} {H : Hp} {Q : VK} {op : Operator} {C a dx : Addr} {fs : List (Str × V)} {y : V} {d : D} {n : String} {k j : Nat} {sp : Sp} (ho : op = .Add ∨ op = .Sub ∨ op = .Mult) (mt : MetX X.prog X.w X.K X.mg X.base (L2.CX X.prog X.w) k C (PySem.dunder op.info.2) sp) (hc : PySem.W.selfFirst X.K C = true) (tk : Takes X W) (hr : Room j X.A) (hk : k ≤ j)
    (hrr : PySem.W.findIn X.K (.ref C) (PySem.dunderR op.info.2) = some none) (r : Rp X.K H y d) (e : d.ty = some n) (hn : n ≠ "list") (ha : H a = some (.ins C dx fs)) (q : sp [.ref a, y] H Q fun c d H' => ∀ σ, W c d σ H') : OpW X (binaryOp op) (.ref a) y H Q := by
  rcases ho with rfl | rfl | rfl <;> cases d <;> simp only [D.ty, Option.some.injEq, reduceCtorEq] at e <;> subst e <;>
    first
    | exact opw_ownD mt hc tk hr hk hrr (.inl rfl) rfl rfl rfl r rfl ha q
    | exact absurd rfl hn
theorem ok_did {f Fa M R C : Addr} {fd : FuncData} (F : Fun K "_law_did" "_law_did" (top 20) f fd) (T : Cls4 K mg Fa M R C)
    (a1 : MetX P w K mg base (L2.CX P w) 5 C "__add__" (spOp K M R C (fun p q p' q' => p * q' + p' * q) (fun p q p' q' => q * q'))) (a2 : MetX P w K mg base (L2.CX P w) 5 C "__sub__" (spOp K M R C (fun p q p' q' => p * q' - p' * q) (fun p q p' q' => q * q')))
    (a3 : MetX P w K mg base (L2.CX P w) 5 C "__mul__" (spOp K M R C (fun p q p' q' => p * p') (fun p q p' q' => q * q'))) (a4 : MetX P w K mg base (L2.CX P w) 5 C "over" (spOp K M R C (fun p q p' q' => p * q') (fun p q p' q' => q * p'))) (a5 : MetX P w K mg base (L2.CX P w) 2 C "less" (spLess K M C))
    (r1 : PySem.W.findIn K (.ref C) "__radd__" = some none) (r2 : PySem.W.findIn K (.ref C) "__rsub__" = some none) (r3 : PySem.W.findIn K (.ref C) "__rmul__" = some none) : FnOk P w K mg base (L2.CX P w) 7 f fd ["word", "a", "b"] (spDid K M R C) := by
  refine okXS F scDid (fun vs H Q E ⟨_, _, _, _, _, e, _⟩ => by rw [e]; rfl) ?_
  rintro cdv A outer s H _ Q E hr ⟨z, a, y, p, q, rfl, ⟨dx, ha⟩, hq, h⟩ hN nd tk
  change QB _ (_ :: _) _ [some _, some _, some _] _
  have al : ∀ m : Str, (m == "n") = false → (m == "d") = false → List.lookup m [(("n" : Str), V.int p), ("d", V.int q)] = none := fun m h1 h2 => by simp [List.lookup, h1, h2]
  kct_strs
  rcases h with ⟨rfl, b, p', q', rfl, hb, hp', hq', z1, z2⟩ | ⟨hz, d, n, r, e, hn, zE⟩
  · refine ifd (fun e => absurd e (by decide)) (fun _ => ?_)
    kct_strs
    refine ifd (fun e => absurd e (by decide)) (fun _ => ?_)
    kct_strs
    refine ifd (fun e => absurd e (by decide)) (fun _ => ?_)
    kct_strs
    refine ifd (fun e => absurd e (by decide)) (fun _ => ?_)
    refine we_methX T.iC.cl a4 tk hr (by decide) ?_ rfl rfl rfl
    kct_strs
    refine ⟨a, dx, _, rfl, ha, al _ (by decide) (by decide), ?_⟩
    kct_strs
    exact ⟨a, _, p, q, rfl, ⟨dx, ha⟩, hq, .inl ⟨b, p', q', rfl, hb, hp', hq', z1, fun e d H' s' ed σ => z2 e d H' s' ed⟩⟩
  · rcases hz with rfl | rfl | rfl | rfl | rfl
    · refine ifd (fun _ => ?_) (fun e => absurd rfl e)
      kct_strs
      exact data_op (.inl rfl) a1 T.pC tk hr (by decide) r1 r e hn ha ⟨a, y, p, q, rfl, ⟨dx, ha⟩, hq, .inr ⟨d, n, r, e, hn, fun σ => zE⟩⟩
    · refine ifd (fun e => absurd e (by decide)) (fun _ => ?_)
      kct_strs
      refine ifd (fun _ => ?_) (fun e => absurd rfl e)
      kct_strs
      exact data_op (.inr (.inl rfl)) a2 T.pC tk hr (by decide) r2 r e hn ha ⟨a, y, p, q, rfl, ⟨dx, ha⟩, hq, .inr ⟨d, n, r, e, hn, fun σ => zE⟩⟩
    · refine ifd (fun e => absurd e (by decide)) (fun _ => ?_)
      kct_strs
      refine ifd (fun e => absurd e (by decide)) (fun _ => ?_)
      kct_strs
      refine ifd (fun _ => ?_) (fun e => absurd rfl e)
      kct_strs
      exact data_op (.inr (.inr rfl)) a3 T.pC tk hr (by decide) r3 r e hn ha ⟨a, y, p, q, rfl, ⟨dx, ha⟩, hq, .inr ⟨d, n, r, e, hn, fun σ => zE⟩⟩
    · refine ifd (fun e => absurd e (by decide)) (fun _ => ?_)
      kct_strs
      refine ifd (fun e => absurd e (by decide)) (fun _ => ?_)
      kct_strs
      refine ifd (fun e => absurd e (by decide)) (fun _ => ?_)
      kct_strs
      refine ifd (fun _ => ?_) (fun e => absurd rfl e)
      refine we_methX T.iC.cl a5 tk hr (by decide) ?_ rfl rfl rfl
      kct_strs
      refine ⟨a, dx, _, rfl, ha, al _ (by decide) (by decide), ?_⟩
      kct_strs
      exact ⟨a, y, p, q, rfl, ⟨dx, ha⟩, hq, .inr ⟨d, n, r, e, hn, fun σ => zE⟩⟩
    · refine ifd (fun e => absurd e (by decide)) (fun _ => ?_)
      kct_strs
      refine ifd (fun e => absurd e (by decide)) (fun _ => ?_)
      kct_strs
      refine ifd (fun e => absurd e (by decide)) (fun _ => ?_)
      kct_strs
      refine ifd (fun e => absurd e (by decide)) (fun _ => ?_)
      refine we_methX T.iC.cl a4 tk hr (by decide) ?_ rfl rfl rfl
      kct_strs
      refine ⟨a, dx, _, rfl, ha, al _ (by decide) (by decide), ?_⟩
      kct_strs
      exact ⟨a, y, p, q, rfl, ⟨dx, ha⟩, hq, .inr ⟨d, n, r, e, hn, fun σ => zE⟩⟩
end
/-- a ratio is in lowest terms, and stands for n / d -/
theorem rat_facts (n d : Int) (hd : d ≠ 0) : 0 < rq n d ∧ Int.gcd (rp n d) (rq n d) = 1 ∧ rp n d * d = n * rq n d ∧ (rq n d).natAbs ≤ d.natAbs := by
  have hg : 0 < Int.gcd n d := Nat.pos_of_ne_zero fun e => hd (Int.gcd_eq_zero_iff.mp e).2
  obtain ⟨n', hn⟩ := Int.gcd_dvd_left n d
  obtain ⟨d', hd'⟩ := Int.gcd_dvd_right n d
  generalize hG : Int.gcd n d = g at *
  have hg' : (g : Int) ≠ 0 := by omega
  have h1 : Int.gcd n' d' = 1 := by
    have : Int.gcd ((g : Int) * n') ((g : Int) * d') = g := by rw [← hn, ← hd']; exact hG
    rw [Int.gcd_mul_left, Int.natAbs_natCast] at this
    exact Nat.eq_of_mul_eq_mul_left hg (by omega)
  have q1 : n / (g : Int) = n' := by rw [hn]; exact Int.mul_ediv_cancel_left _ hg'
  have q2 : d / (g : Int) = d' := by rw [hd']; exact Int.mul_ediv_cancel_left _ hg'
  have q3 : (-n) / (g : Int) = -n' := by rw [hn, ← Int.mul_neg]; exact Int.mul_ediv_cancel_left _ hg'
  have q4 : (-d) / (g : Int) = -d' := by rw [hd', ← Int.mul_neg]; exact Int.mul_ediv_cancel_left _ hg'
  have le : d'.natAbs ≤ d.natAbs := by
    rw [hd', Int.natAbs_mul, Int.natAbs_natCast]
    exact Nat.le_mul_of_pos_left _ hg
  unfold rp rq
  rw [hG]
  by_cases h : 0 < d
  · have hp : 0 < d' := by
      apply Int.not_le.mp
      intro hle
      have := Int.mul_le_mul_of_nonneg_left hle (show (0 : Int) ≤ g by omega)
      rw [← hd', Int.mul_zero] at this
      omega
    rw [if_pos h, if_neg (by omega), q1, q2]
    refine ⟨hp, h1, ?_, le⟩
    conv => lhs; rw [hd']
    conv => rhs; rw [hn]
    rw [Int.mul_left_comm, Int.mul_assoc]
  · have hp : d' < 0 := by
      apply Int.not_le.mp
      intro hle
      have := Int.mul_le_mul_of_nonneg_left hle (show (0 : Int) ≤ g by omega)
      rw [← hd', Int.mul_zero] at this
      omega
    rw [if_neg h, if_pos (by omega), q3, q4]
    refine ⟨by omega, by rw [Int.gcd_neg, Int.neg_gcd]; exact h1, ?_, by rw [Int.natAbs_neg]; exact le⟩
    conv => lhs; rw [hd']
    conv => rhs; rw [hn]
    rw [Int.neg_mul, Int.mul_neg, Int.mul_left_comm, Int.mul_assoc]
theorem cross {p q n d : Int} (h : p * d = n * q) {p' q' n' d' : Int} (h' : p' * d' = n' * q') : p * p' * (d * d') = n * n' * (q * q') := by
  have : (p * d) * (p' * d') = (n * q) * (n' * q') := by rw [h, h']
  calc p * p' * (d * d') = (p * d) * (p' * d') := by simp only [Int.mul_assoc, Int.mul_left_comm, Int.mul_comm]
    _ = (n * q) * (n' * q') := this
    _ = n * n' * (q * q') := by simp only [Int.mul_assoc, Int.mul_left_comm, Int.mul_comm]
theorem dvd_cop {a b c : Int} (h : a ∣ b * c) (g : Int.gcd a b = 1) : a ∣ c := by
  rw [← Int.natAbs_dvd_natAbs] at h ⊢
  rw [Int.natAbs_mul] at h
  exact Nat.Coprime.dvd_of_dvd_mul_left g h
/-- lowest terms are told by the cross -/
theorem lowest {p q p' q' : Int} (hq : 0 < q) (hq' : 0 < q') (h : Int.gcd p q = 1) (h' : Int.gcd p' q' = 1) : (p = p' ∧ q = q') ↔ p * q' = p' * q := by
  constructor
  · rintro ⟨rfl, rfl⟩
    rfl
  · intro e
    have d1 : q ∣ p * q' := ⟨p', by rw [e, Int.mul_comm]⟩
    have d2 : q' ∣ p' * q := ⟨p, by rw [← e, Int.mul_comm]⟩
    have c1 : q ∣ q' := dvd_cop d1 (by rw [Int.gcd_comm]; exact h)
    have c2 : q' ∣ q := dvd_cop d2 (by rw [Int.gcd_comm]; exact h')
    have eq : q = q' := Int.dvd_antisymm (by omega) (by omega) c1 c2
    subst eq
    exact ⟨Int.eq_of_mul_eq_mul_right (by omega) e, rfl⟩
theorem scL : FnScope ["script", "state", "wide", "turn", "a", "b", "c", "d", "k", "x", "y", "up", "asked", "z", "n", "m", "told", "value", "low", "bad", "word"] ["script"] (defScope (top 22)) := ⟨rfl, rfl, rfl, by decide +kernel, rfl, by decide +kernel, by decide +kernel⟩
def LX (P : Program) (w : World) (K : PySem.W.Frag) (mg : Str → Option Value) (base : Heap) (f : Addr) (cdv : Value) (A : Around) (outer : List Env) (s : Shared) (H : Hp) (E : XK) : Cx := (cxOf CX0 P w K mg base ["script", "state", "wide", "turn", "a", "b", "c", "d", "k", "x", "y", "up", "asked", "z", "n", "m", "told", "value", "low", "bad", "word"] "law" (defScope (top 22)) f cdv A outer s H E).nox
structure Fx (X : Cx) (fD fM Fa M R C : Addr) : Prop where
  hN : X.N = (["script", "state", "wide", "turn", "a", "b", "c", "d", "k", "x", "y", "up", "asked", "z", "n", "m", "told", "value", "low", "bad", "word"] : List Str)
  nd : X.N.Nodup
  hr : Room 10 X.A
  tk : Takes X (fun _ _ _ _ => False)
  n_all : X.mg "all" = none
  n_range : X.mg "range" = none
  n_int : X.mg "int" = none
  n_str : X.mg "str" = none
  n_abs : X.mg "abs" = none
  n_isinstance : X.mg "isinstance" = none
  g_did : X.mg "_law_did" = some (.ref fD)
  g_made : X.mg "_law_made" = some (.ref fM)
  g_ratio : X.mg "Ratio" = some (.ref C)
  o_did : ∃ fd ps, FnOk X.prog X.w X.K X.mg X.base (L2.CX X.prog X.w) 8 fD fd ps (spDid X.K M R C) ∧ PySem.W.keepIn X.K (.ref fD) = true ∧ Binds X.K fd ps []
  o_made : ∃ fd ps, FnOk X.prog X.w X.K X.mg X.base (L2.CX X.prog X.w) 8 fM fd ps (spMade X.K M R C) ∧ PySem.W.keepIn X.K (.ref fM) = true ∧ Binds X.K fd ps []
  c_law_state : Cal X.prog X.w X.K X.mg X.base 1 "_law_state" (spState X.K) []
  c_law_take : Cal X.prog X.w X.K X.mg X.base 1 "_law_take" (spTake) []
  c_law_is_whole : Cal X.prog X.w X.K X.mg X.base 1 "_law_is_whole" (spWhole X.K) []
  c_law_says : Cal X.prog X.w X.K X.mg X.base 1 "_law_says" (spSays) []
  c_law_same : Cal X.prog X.w X.K X.mg X.base 2 "_law_same" (spSame) []
  c_law_common : Cal X.prog X.w X.K X.mg X.base 1 "_law_common" (spCommon) []
  c_law_sign_at : Cal X.prog X.w X.K X.mg X.base 1 "_law_sign_at" (spSgn) []
  c_law_fits : Cal X.prog X.w X.K X.mg X.base 2 "_law_fits" (spFits C) []
  c_law_result : Cal X.prog X.w X.K X.mg X.base 9 "_law_result" (spRes X.prog X.w X.K X.mg X.base M R) []
  m_add : MetX X.prog X.w X.K X.mg X.base (L2.CX X.prog X.w) 5 C "__add__" (spOp X.K M R C (fun p q p' q' => p * q' + p' * q) (fun p q p' q' => q * q'))
  m_sub : MetX X.prog X.w X.K X.mg X.base (L2.CX X.prog X.w) 5 C "__sub__" (spOp X.K M R C (fun p q p' q' => p * q' - p' * q) (fun p q p' q' => q * q'))
  m_mul : MetX X.prog X.w X.K X.mg X.base (L2.CX X.prog X.w) 5 C "__mul__" (spOp X.K M R C (fun p q p' q' => p * p') (fun p q p' q' => q * q'))
  m_neg : MetX X.prog X.w X.K X.mg X.base (L2.CX X.prog X.w) 5 C "__neg__" (spUn C fun p => -p)
  m_size : MetX X.prog X.w X.K X.mg X.base (L2.CX X.prog X.w) 5 C "size" (spUn C fun p => if p < 0 then -p else p)
  m_times : MetX X.prog X.w X.K X.mg X.base (L2.CX X.prog X.w) 5 C "times" (spTimes C)
  m_eq : MetX X.prog X.w X.K X.mg X.base (CX0) 1 C "__eq__" (spEqR X.K C)
  m_less : MetX X.prog X.w X.K X.mg X.base (L2.CX X.prog X.w) 2 C "less" (spLess X.K M C)
  m_sign : MetX X.prog X.w X.K X.mg X.base (CX0) 1 C "sign" (spAns C fun p q => .int ((if 0 < p then 1 else if p < 0 then -1 else 0)))
  m_is_zero : MetX X.prog X.w X.K X.mg X.base (CX0) 1 C "is_zero" (spAns C fun p q => .bl (decide (p = 0)))
  m_is_whole : MetX X.prog X.w X.K X.mg X.base (CX0) 1 C "is_whole" (spAns C fun p q => .bl (decide (q = 1)))
  m_floor : MetX X.prog X.w X.K X.mg X.base (CX0) 1 C "floor" (spAns C fun p q => .int (p / q))
  m_str : MetX X.prog X.w X.K X.mg X.base (CX0) 1 C "__str__" (spAns C fun p q => .str (told p q))
  mkR : MakX X.prog X.w X.K X.mg X.base (L2.CX X.prog X.w) 3 "Ratio" C (spInit (K := X.K) M R C)
  mkD : MakD X.prog X.w X.K X.mg X.base (L2.CX X.prog X.w) 3 "Ratio" C (spInit (K := X.K) M R C) [.int 1]
  T : Cls4 X.K X.mg Fa M R C
section
variable {K : PySem.W.Frag}
theorem init_law {C M R x dx : Addr} {H H2 : Hp} {N D : Int} {Q : Hp → Prop} {E : XK} (hx0 : H x = none) (s : Same H H2) (hx : H2 x = some (.ins C dx [])) (hD : D.natAbs < 1073741824) (hz : D ≠ 0) (q : ∀ H', Same H H' → Rt C H' x (rp N D) (rq N D) → Q H') :
    spInit (K := K) M R C [.ref x, .int N, .int D] H2 (fun v H3 => v = .non ∧ Q H3) E := init_use (Q := fun _ H3 => Q H3) hx0 s hx hD (fun e => absurd e hz) fun _ => q
end
section
variable {P : Program} {w : World} {K : PySem.W.Frag} {mg : Str → Option Value} {base : Heap} {f fD fM Fa M R C : Addr} {cdv : Value} {A : Around} {outer : List Env} {s : Shared} {H0 : Hp} {E0 : XK}
theorem law_1 {v : V} {ns : List Int} {H : Hp} (T0 : Fx (LX P w K mg base f cdv A outer s H0 E0) fD fM Fa M R C) (rp0 : Rp K H v (.lst (ns.map .int))) (hl : ns.length ≤ 63) {D0 : Ends}
    (q : ∀ (vs : Addr) (wd t : Option V) (a b c d k : Int) (cx cy : Addr) H', St vs H' → (a.natAbs < 2 ^ 800) → (b ≠ 0 ∧ b.natAbs ≤ 30) → (c.natAbs ≤ 20) → (1 ≤ d ∧ d ≤ 30) → (k.natAbs ≤ 10) → Rt C H' cx (rp a b) (rq a b) → Rt C H' cy (rp c d) (rq c d) →
      QB (LX P w K mg base f cdv A outer s H0 E0) ((defBody (top 22)).drop 7) D0 [some v, some (.ref vs), wd, t, some (.int a), some (.int b), some (.int c), some (.int d), some (.int k), some (.ref cx), some (.ref cy), some (.int (if 0 < b then 1 else -1)), none, none, none, none, none, none, none, none, none] H') :
    QB (LX P w K mg base f cdv A outer s H0 E0) (defBody (top 22)) D0 [some v, none, none, none, none, none, none, none, none, none, none, none, none, none, none, none, none, none, none, none, none] H := by
  obtain ⟨hN, nd, hr, tk, n_all, n_range, n_int, n_str, n_abs, n_isinstance, g_did, g_made, g_ratio, o_did, o_made, c_law_state, c_law_take, c_law_is_whole, c_law_says, c_law_same, c_law_common, c_law_sign_at, c_law_fits, c_law_result, m_add, m_sub, m_mul, m_neg, m_size, m_times, m_eq, m_less, m_sign, m_is_zero, m_is_whole, m_floor, m_str, mkR, mkD, T⟩ := T0
  change QB _ (_ :: _ :: _ :: (defBody (top 22)).drop 3) _ _ _
  kct_strs
  refine ⟨_, _, rfl, rp0, hl, fun s0 t0 ps H1 s1 e1 => ?_⟩
  have st1 : St ps H1 := ⟨_, _, e1⟩
  kct_strs
  refine ⟨Nat.le_of_ble_eq_true rfl, fun p2 H2 hp2 s2 e2 => ?_⟩
  kct_strs
  refine ⟨_, _, rfl, by decide, st1.same s2, fun r3 H3 h3 h4 k3 => ?_⟩
  have n2 : p2 ≠ ps := by
    rintro rfl
    rw [e1] at hp2
    cases hp2
  have e3 := k3.s _ _ n2 e2
  obtain ⟨n, hn, hn2⟩ : ∃ n : Nat, atI [V.int 0, V.int 0, V.int 5, V.int 200] r3 = some (.int n) ∧ n ≤ 200 := by
    have : r3 = 0 ∨ r3 = 1 ∨ r3 = 2 ∨ r3 = 3 := by omega
    rcases this with rfl | rfl | rfl | rfl
    · exact ⟨0, rfl, by omega⟩
    · exact ⟨0, rfl, by omega⟩
    · exact ⟨5, rfl, by omega⟩
    · exact ⟨200, rfl, by omega⟩
  refine ixw_sl (.inl (.inl e3)) hn ?_
  kct_strs
  refine ⟨by omega, fun i σ H' => ∃ x : Option V, H3 = H' ∧ σ = [some v, some (.ref ps), some (.int (10 ^ i)), x, none, none, none, none, none, none, none, none, none, none, none, none, none, none, none, none, none], ⟨none, rfl, by rw [Int.pow_zero]⟩, ?_, ?_⟩
  · rintro i σ1 H6 hi ⟨x, rfl, rfl⟩
    show QG _ _ _ _ _ _
    kct_strs
    refine opw_mul (.inr (by omega)) ?_
    kct_strs
    exact ⟨_, rfl, by rw [Int.pow_succ]⟩
  · rintro σ1 H6 ⟨x, rfl, rfl⟩
    rw [Int.toNat_natCast]
    have st3 := k3.t
    have go : ∀ (a b : Int) H', St ps H' → a.natAbs < 2 ^ 800 → b ≠ 0 ∧ b.natAbs ≤ 30 → QB (LX P w K mg base f cdv A outer s H0 E0) ((defBody (top 22)).drop 4) D0 [some v, some (.ref ps), some (.int (10 ^ n)), x, some (.int a), some (.int b), none, none, none, none, none, none, none, none, none, none, none, none, none, none, none] H' := by
      intro a b H4 st4 ha hb
      change QB _ (_ :: _ :: _ :: (defBody (top 22)).drop 7) _ _ _
      kct_strs
      refine ⟨_, _, rfl, by decide, st4, fun r5 H5 h5 h6 k5 => ?_⟩
      kct_strs
      refine ⟨_, _, rfl, by decide, k5.t, fun r6 H6 h7 h8 k6 => ?_⟩
      kct_strs
      refine ⟨_, _, rfl, by decide, k6.t, fun r7 H7 h9 h10 k7 => ?_⟩
      kct_strs
      intro c1 dx1 H8 hx8 s8 e8 ed8 ne8
      refine init_law hx8 s8 e8 (by omega) hb.1 (fun H9 s9 r9 => ?_)
      kct_strs
      intro c2 dx2 H10 hx10 s10 e10 ed10 ne10
      refine init_law hx10 s10 e10 (by omega) (by omega) (fun H11 s11 r11 => ?_)
      kct_strs
      refine ⟨Nat.le_of_ble_eq_true rfl, fun p12 H12 hp12 s12 e12 => ?_⟩
      kct_strs
      have fin : QB (LX P w K mg base f cdv A outer s H0 E0) ((defBody (top 22)).drop 7) D0 [some v, some (.ref ps), some (.int (10 ^ n)), x, some (.int a), some (.int b), some (.int (r5 - 20)), some (.int (1 + r6)), some (.int (r7 - 10)), some (.ref c1), some (.ref c2), some (.int (if 0 < b then 1 else -1)), none, none, none, none, none, none, none, none, none] H12 :=
        q ps _ _ a b _ _ _ c1 c2 H12 (k7.t.same ((s9.trans s11).trans s12)) ha hb (by omega) ⟨by omega, by omega⟩ (by omega) ((r9.to s11).to s12) (r11.to s12)
      refine ifd (fun e => ?_) (fun e => ?_)
      · kct_strs
        rw [if_pos e] at fin
        exact fin
      · kct_strs
        rw [if_neg e] at fin
        exact fin
    change QB _ (_ :: (defBody (top 22)).drop 4) _ _ _
    kct_strs
    refine ⟨_, _, rfl, by decide, st3, fun r5 H5 h5 h6 k5 => ?_⟩
    kct_strs
    refine opw_mul (.inl (by omega)) ?_
    kct_strs
    refine ⟨_, _, rfl, by decide, k5.t, fun r6 H6 h7 h8 k6 => ?_⟩
    kct_strs
    refine ⟨_, _, rfl, by decide, k6.t, fun r7 H7 h9 h10 k7 => ?_⟩
    kct_strs
    refine ⟨_, _, rfl, by decide, k7.t, fun r8 H8 h11 h12 k8 => ?_⟩
    have ha : ((r5 - 20) * 10 ^ n + r6).natAbs < 2 ^ 800 := by
      have p1 : ((10 : Int) ^ n).natAbs ≤ 10 ^ 200 := by
        rw [Int.natAbs_pow]
        exact Nat.pow_le_pow_right (by decide) hn2
      have p2 : ((r5 - 20) * 10 ^ n).natAbs ≤ 20 * 10 ^ 200 := by
        rw [Int.natAbs_mul]
        exact Nat.mul_le_mul (by omega) p1
      have p3 : 20 * 10 ^ 200 + 4 < 2 ^ 800 := by decide +kernel
      omega
    kct_strs
    refine ifd (fun e => ?_) (fun e => ?_)
    · kct_strs
      refine opw_mul (.inr (by omega)) ?_
      kct_strs
      exact go _ _ _ k8.t ha ⟨by omega, by omega⟩
    · kct_strs
      refine opw_mul (.inr (by omega)) ?_
      kct_strs
      exact go _ _ _ k8.t ha ⟨by omega, by omega⟩
end
section
variable {P : Program} {w : World} {K : PySem.W.Frag} {mg : Str → Option Value} {base : Heap} {f fD fM Fa M R C : Addr} {cdv : Value} {A : Around} {outer : List Env} {s : Shared} {H0 : Hp} {E0 : XK}
theorem law_fit {v : V} {H : Hp} {vs cx cy pa : Addr} {wd t : Option V} {a b c d k : Int} {up : V} {xs : List V} (T0 : Fx (LX P w K mg base f cdv A outer s H0 E0) fD fM Fa M R C) {D0 : Ends} (hxs : H pa = some (.lst xs)) (hlen : xs.length ≤ 100)
    (hf : ∀ x ∈ xs, ∃ (r o : Addr) (p q n m : Int), x = .ref r ∧ H r = some (.tup [.ref o, .int n, .int m]) ∧ Rt C H o p q ∧ (0 < q ∧ q < 16384) ∧ Int.gcd p q = 1 ∧ m.natAbs < 16384 ∧ p * m = n * q)
    (q : ∀ H', Same H H' → QB (LX P w K mg base f cdv A outer s H0 E0) ((defBody (top 22)).drop 10) D0 [some v, some (.ref vs), wd, t, some (.int a), some (.int b), some (.int c), some (.int d), some (.int k), some (.ref cx), some (.ref cy), some up, some (.ref pa), none, none, none, none, none, none, none, none] H') :
    QB (LX P w K mg base f cdv A outer s H0 E0) ((defBody (top 22)).drop 9) D0 [some v, some (.ref vs), wd, t, some (.int a), some (.int b), some (.int c), some (.int d), some (.int k), some (.ref cx), some (.ref cy), some up, some (.ref pa), none, none, none, none, none, none, none, none] H := by
  obtain ⟨hN, nd, hr, tk, n_all, n_range, n_int, n_str, n_abs, n_isinstance, g_did, g_made, g_ratio, o_did, o_made, c_law_state, c_law_take, c_law_is_whole, c_law_says, c_law_same, c_law_common, c_law_sign_at, c_law_fits, c_law_result, m_add, m_sub, m_mul, m_neg, m_size, m_times, m_eq, m_less, m_sign, m_is_zero, m_is_whole, m_floor, m_str, mkR, mkD, T⟩ := T0
  have hz : (1000 : Nat) < sizeLine := by decide
  change QB _ (_ :: (defBody (top 22)).drop 10) _ _ _
  kct_strs
  refine we_lc (own := [("z", 13), ("n", 14), ("m", 15)]) rfl rfl nd ⟨rfl, of_decide_eq_true (by kernel_rfl), of_decide_eq_true (by kernel_rfl), of_decide_eq_true (by kernel_rfl), of_decide_eq_true (by kernel_rfl)⟩ (fun _ => rfl) ?_
  refine ql_lc (σw := [some v, some (.ref vs), wd, t, some (.int a), some (.int b), some (.int c), some (.int d), some (.int k), some (.ref cx), some (.ref cy), some up, some (.ref pa), none, none, none, none, none, none, none, none]) rfl (qi_list ?_)
  kct_strs
  refine ⟨⟨xs, .inl (.inl hxs)⟩, xs.length, _, _, walk_list (xs := xs), by omega, fun H' s => s.seq (.inl (.inl hxs)), fun i => if i < xs.length then some (.bl true) else none, fun i d e => ?_, ?_, ?_⟩
  · dsimp only at e
    split at e <;> cases e
    rfl
  · rintro i x H2 H3 hi s2 ⟨rfl, ex⟩
    obtain ⟨r, o, p, q', n, m, rfl, hr', ho, hq, hg, hm, hc⟩ := hf x (List.mem_of_getElem? ex)
    intro s0 H00 C0 cl fp
    refine wg_tup rfl (.inl (.inl (s2 _ _ hr'))) rfl rfl ?_
    kct_strs
    refine ⟨rfl, ?_⟩
    intro s0 H00 C0 cl fp
    kct_strs
    refine ⟨o, p, q', n, m, rfl, ho.to s2, hq, hg, hm, ?_⟩
    rw [decide_eq_true hc]
    exact ⟨Same.refl _, _, by dsimp only; rw [if_pos hi], .bl _⟩
  · intro p H2 ys s2 hp e2 r2
    have e3 : bits xs.length (fun i => if i < xs.length then some (D.bl true) else none) = ((List.range xs.length).map fun _ => true).map D.bl := by
      rw [List.map_map, ← bits_rg]
      unfold bits
      exact fm_congr fun k hk => by rw [if_pos (List.mem_range.mp hk)]; rfl
    rw [e3] at r2
    kct_strs
    refine callw_all rfl e2 r2 ?_
    kct_strs
    have e4 : ((List.range xs.length).map fun _ => true).all id = true := by simp
    rw [e4, if_neg (by decide)]
    kct_strs
    exact q _ s2
end
theorem rp_le (n d : Int) : (rp n d).natAbs ≤ n.natAbs := by
  unfold rp
  split
  · exact Int.natAbs_ediv_le_natAbs _ _
  · have := Int.natAbs_ediv_le_natAbs (-n) (Int.gcd n d : Int)
    rwa [Int.natAbs_neg] at this
/-- what stands for N / D stands for n / m -/
theorem stand {p q N D n m : Int} (h : p * D = N * q) (h2 : N * m = n * D) (hD : D ≠ 0) : p * m = n * q := by
  apply Int.eq_of_mul_eq_mul_right hD
  calc p * m * D = (p * D) * m := by simp only [Int.mul_assoc, Int.mul_left_comm, Int.mul_comm]
    _ = (N * m) * q := by rw [h]; simp only [Int.mul_assoc, Int.mul_left_comm, Int.mul_comm]
    _ = n * q * D := by rw [h2]; simp only [Int.mul_assoc, Int.mul_left_comm, Int.mul_comm]
section
variable {P : Program} {w : World} {K : PySem.W.Frag} {mg : Str → Option Value} {base : Heap} {f fD fM Fa M R C : Addr} {cdv : Value} {A : Around} {outer : List Env} {s : Shared} {H0 : Hp} {E0 : XK}
/-- what a fitting thing is: a ratio in lowest terms, with the two that it stands for -/
def fitD (C : Addr) (t : Addr × Int × Int × Int × Int) (H : Hp) : Prop := Rt C H t.1 t.2.1 t.2.2.1 ∧ (0 < t.2.2.1 ∧ t.2.2.1 < 16384) ∧ Int.gcd t.2.1 t.2.2.1 = 1 ∧ t.2.2.2.2.natAbs < 16384 ∧ t.2.1 * t.2.2.2.2 = t.2.2.2.1 * t.2.2.1
theorem law_2 {v : V} {H : Hp} {vs cx cy : Addr} {wd t : Option V} {a b c d k : Int} {up : V} (T0 : Fx (LX P w K mg base f cdv A outer s H0 E0) fD fM Fa M R C) {D0 : Ends} (ha : a.natAbs < 2 ^ 800) (hb : b ≠ 0 ∧ b.natAbs ≤ 30) (hc : c.natAbs ≤ 20) (hd : 1 ≤ d ∧ d ≤ 30) (hk : k.natAbs ≤ 10) (rx : Rt C H cx (rp a b) (rq a b)) (ry : Rt C H cy (rp c d) (rq c d))
    (q : ∀ (as : Option V) H', Same H H' → QB (LX P w K mg base f cdv A outer s H0 E0) ((defBody (top 22)).drop 10) D0 [some v, some (.ref vs), wd, t, some (.int a), some (.int b), some (.int c), some (.int d), some (.int k), some (.ref cx), some (.ref cy), some up, as, none, none, none, none, none, none, none, none] H') :
    QB (LX P w K mg base f cdv A outer s H0 E0) ((defBody (top 22)).drop 7) D0 [some v, some (.ref vs), wd, t, some (.int a), some (.int b), some (.int c), some (.int d), some (.int k), some (.ref cx), some (.ref cy), some up, none, none, none, none, none, none, none, none, none] H := by
  have T0' := T0
  obtain ⟨hN, nd, hr, tk, n_all, n_range, n_int, n_str, n_abs, n_isinstance, g_did, g_made, g_ratio, o_did, o_made, c_law_state, c_law_take, c_law_is_whole, c_law_says, c_law_same, c_law_common, c_law_sign_at, c_law_fits, c_law_result, m_add, m_sub, m_mul, m_neg, m_size, m_times, m_eq, m_less, m_sign, m_is_zero, m_is_whole, m_floor, m_str, mkR, mkD, T⟩ := T0
  obtain ⟨fx1, fx2, fx3, fx4⟩ := rat_facts a b hb.1
  obtain ⟨fy1, fy2, fy3, fy4⟩ := rat_facts c d (by omega)
  have px := rp_le a b
  have py := rp_le c d
  change QB _ (_ :: (defBody (top 22)).drop 8) _ _ _
  kct_strs
  refine ⟨Nat.le_of_ble_eq_true rfl, fun p1 H1 hp1 s1 e1 => ?_⟩
  refine wa_cons rfl (we_tup (wa_cons rfl (we_makeD mkD tk hr (by decide) rfl ?_ (by decide) rfl rfl)))
  kct_strs
  intro c2 dx2 H2 hx2 s2 e2 ed2 ne2
  refine init_law hx2 s2 e2 (by decide) (by decide) (fun H3 s3 r3 => ?_)
  kct_strs
  refine ⟨Nat.le_of_ble_eq_true rfl, fun p4 H4 hp4 s4 e4 => ?_⟩
  kct_strs
  have S4 : Same H H4 := s1.trans (s3.trans s4)
  obtain ⟨dx, hx⟩ := rx
  obtain ⟨dy, hy⟩ := ry
  refine opw_own (op := .Add) m_add T.pC tk hr (by decide) (S4 _ _ hx) (S4 _ _ hy) ?_
  refine ⟨cx, _, _, _, rfl, ⟨dx, S4 _ _ hx⟩, by omega, .inl ⟨cy, _, _, rfl, ⟨dy, S4 _ _ hy⟩, by omega, by omega, fun hne5 c5 H5 s5 r5 => ?_, fun e => absurd e (Int.mul_ne_zero (by omega) (by omega))⟩⟩
  have S5 : Same H H5 := S4.trans s5
  show QA _ _ _ _ _
  kct_strs
  refine opw_mul (.inr (by omega)) ?_
  kct_strs
  refine opw_mul (.inr (by omega)) ?_
  kct_strs
  refine opw_mul (.inr (by omega)) ?_
  kct_strs
  refine ⟨Nat.le_of_ble_eq_true rfl, fun p6 H6 hp6 s6 e6 => ?_⟩
  have S6 : Same H H6 := S5.trans s6
  kct_strs
  refine opw_own (op := .Sub) m_sub T.pC tk hr (by decide) (S6 _ _ hx) (S6 _ _ hy) ?_
  refine ⟨cx, _, _, _, rfl, ⟨dx, S6 _ _ hx⟩, by omega, .inl ⟨cy, _, _, rfl, ⟨dy, S6 _ _ hy⟩, by omega, by omega, fun hne7 c7 H7 s7 r7 => ?_, fun e => absurd e (Int.mul_ne_zero (by omega) (by omega))⟩⟩
  have S7 : Same H H7 := S6.trans s7
  show QA _ _ _ _ _
  kct_strs
  refine opw_mul (.inr (by omega)) ?_
  kct_strs
  refine opw_mul (.inr (by omega)) ?_
  kct_strs
  refine opw_mul (.inr (by omega)) ?_
  kct_strs
  refine ⟨Nat.le_of_ble_eq_true rfl, fun p8 H8 hp8 s8 e8 => ?_⟩
  have S8 : Same H H8 := S7.trans s8
  kct_strs
  refine opw_own (op := .Mult) m_mul T.pC tk hr (by decide) (S8 _ _ hx) (S8 _ _ hy) ?_
  refine ⟨cx, _, _, _, rfl, ⟨dx, S8 _ _ hx⟩, by omega, .inl ⟨cy, _, _, rfl, ⟨dy, S8 _ _ hy⟩, by omega, by omega, fun hne9 c9 H9 s9 r9 => ?_, fun e => absurd e (Int.mul_ne_zero (by omega) (by omega))⟩⟩
  have S9 : Same H H9 := S8.trans s9
  show QA _ _ _ _ _
  kct_strs
  refine opw_mul (.inr (by omega)) ?_
  kct_strs
  refine opw_mul (.inr (by omega)) ?_
  kct_strs
  refine ⟨Nat.le_of_ble_eq_true rfl, fun p10 H10 hp10 s10 e10 => ?_⟩
  have S10 : Same H H10 := S9.trans s10
  kct_strs
  refine unw_own m_neg tk hr (by decide) (S10 _ _ hx) ?_
  refine ⟨cx, _, _, rfl, ⟨dx, S10 _ _ hx⟩, by omega, by omega, fun c11 H11 s11 r11 => ?_⟩
  have S11 : Same H H11 := S10.trans s11
  show QA _ _ _ _ _
  kct_strs
  refine ⟨Nat.le_of_ble_eq_true rfl, fun p12 H12 hp12 s12 e12 => ?_⟩
  have S12 : Same H H12 := S11.trans s12
  kct_strs
  refine ⟨Nat.le_of_ble_eq_true rfl, fun p13 H13 hp13 s13 e13 => ?_⟩
  have S13 : Same H H13 := S12.trans s13
  have al : ∀ m : Str, (m == "n") = false → (m == "d") = false → List.lookup m [(("n" : Str), V.int (rp a b)), ("d", V.int (rq a b))] = none := fun m h1 h2 => by simp [List.lookup, h1, h2]
  kct_strs
  change QB _ (_ :: (defBody (top 22)).drop 9) _ _ _
  kct_strs
  refine we_methX T.iC.cl m_times tk hr (by decide) ?_ rfl rfl rfl
  kct_strs
  refine ⟨cx, dx, _, rfl, S13 _ _ hx, al _ (by decide) (by decide), ?_⟩
  kct_strs
  refine ⟨cx, _, _, k, rfl, ⟨dx, S13 _ _ hx⟩, by omega, by omega, by omega, fun c14 H14 s14 r14 => ?_⟩
  have S14 : Same H H14 := S13.trans s14
  show QA _ _ _ _ _
  kct_strs
  refine opw_mul (.inr (by omega)) ?_
  kct_strs
  refine ⟨Nat.le_of_ble_eq_true rfl, fun p15 H15 hp15 s15 e15 => ?_⟩
  have S15 : Same H H15 := S14.trans s15
  kct_strs
  refine we_meth0X T.iC.cl m_size tk hr (by decide) ?_ rfl
  kct_strs
  refine ⟨cx, dx, _, rfl, S15 _ _ hx, al _ (by decide) (by decide), ?_⟩
  refine ⟨cx, _, _, rfl, ⟨dx, S15 _ _ hx⟩, by omega, by omega, fun c16 H16 s16 r16 => ?_⟩
  have S16 : Same H H16 := S15.trans s16
  show QA _ _ _ _ _
  kct_strs
  refine ⟨Nat.le_of_ble_eq_true rfl, fun p17 H17 hp17 s17 e17 => ?_⟩
  kct_strs
  refine ⟨Nat.le_of_ble_eq_true rfl, fun p18 H18 hp18 s18 e18 => ?_⟩
  kct_strs
  have l13 := ((s14.trans s15).trans ((s16.trans s17).trans s18)) _ _ e13
  refine opw_catL l13 e18 (Nat.le_of_ble_eq_true rfl) fun p19 H19 hp19 s19 e19 => ?_
  kct_strs
  have S19 := S16.trans (s17.trans (s18.trans s19))
  have L18 : Same H18 H19 := s19
  have L17 : Same H17 H19 := s18.trans L18
  have L16 : Same H16 H19 := s17.trans L17
  have L15 : Same H15 H19 := s16.trans L16
  have L14 : Same H14 H19 := s15.trans L15
  have L13 : Same H13 H19 := s14.trans L14
  have L12 : Same H12 H19 := s13.trans L13
  have L11 : Same H11 H19 := s12.trans L12
  have L10 : Same H10 H19 := s11.trans L11
  have L9 : Same H9 H19 := s10.trans L10
  have L8 : Same H8 H19 := s9.trans L9
  have L7 : Same H7 H19 := s8.trans L8
  have L6 : Same H6 H19 := s7.trans L7
  have L5 : Same H5 H19 := s6.trans L6
  have L4 : Same H4 H19 := s5.trans L5
  have L3 : Same H3 H19 := s4.trans L4
  have L1 : Same H1 H19 := s3.trans L3
  have hN : ∀ (N D n m : Int), D ≠ 0 → D.natAbs < 16384 → N * m = n * D → m.natAbs < 16384 → ∀ o' H', Rt C H' o' (rp N D) (rq N D) → Same H' H19 → ∀ r', H19 r' = some (.tup [.ref o', .int n, .int m]) → ∃ (r o : Addr) (p q n m : Int), V.ref r' = .ref r ∧ H19 r = some (.tup [.ref o, .int n, .int m]) ∧ Rt C H19 o p q ∧ (0 < q ∧ q < 16384) ∧ Int.gcd p q = 1 ∧ m.natAbs < 16384 ∧ p * m = n * q := by
    intro N D n m hD hs h2 hm o' H' r sH r' e
    obtain ⟨g1, g2, g3, g4⟩ := rat_facts N D hD
    exact ⟨r', o', _, _, n, m, rfl, e, r.to sH, ⟨g1, by omega⟩, g2, hm, stand g3 h2 hD⟩
  refine law_fit T0' e19 (by simp) (fun u hu => ?_) fun H' s' => q _ _ (S19.trans s')
  have hu' : u = .ref p1 ∨ u = .ref p4 ∨ u = .ref p6 ∨ u = .ref p8 ∨ u = .ref p10 ∨ u = .ref p12 ∨ u = .ref p15 ∨ u = .ref p17 := by simpa using hu
  have dne : rq a b * rq c d ≠ 0 := Int.mul_ne_zero (by omega) (by omega)
  have dsm : (rq a b * rq c d).natAbs < 16384 := by
    rw [Int.natAbs_mul]
    have := Nat.mul_le_mul fx4 fy4
    have : b.natAbs * d.natAbs ≤ 30 * 30 := Nat.mul_le_mul hb.2 (by omega)
    omega
  have msm : (b * d).natAbs < 16384 := by
    rw [Int.natAbs_mul]
    have : b.natAbs * d.natAbs ≤ 30 * 30 := Nat.mul_le_mul hb.2 (by omega)
    omega
  rcases hu' with rfl | rfl | rfl | rfl | rfl | rfl | rfl | rfl
  · exact hN a b a b hb.1 (by omega) rfl (by omega) cx H4 ⟨dx, S4 _ _ hx⟩ L4 p1 (L1 _ _ e1)
  · exact hN a 1 a 1 (by decide) (by decide) rfl (by decide) _ _ r3 L3 p4 (L4 _ _ e4)
  · refine hN _ _ _ _ dne dsm ?_ msm _ _ r5 L5 p6 (L6 _ _ e6)
    clear hN
    generalize rp a b = pa at *
    generalize rq a b = qa at *
    generalize rp c d = pc at *
    generalize rq c d = qc at *
    grind
  · refine hN _ _ _ _ dne dsm ?_ msm _ _ r7 L7 p8 (L8 _ _ e8)
    clear hN
    generalize rp a b = pa at *
    generalize rq a b = qa at *
    generalize rp c d = pc at *
    generalize rq c d = qc at *
    grind
  · refine hN _ _ _ _ dne dsm ?_ msm _ _ r9 L9 p10 (L10 _ _ e10)
    clear hN
    generalize rp a b = pa at *
    generalize rq a b = qa at *
    generalize rp c d = pc at *
    generalize rq c d = qc at *
    grind
  · refine hN _ _ _ _ (by omega) (by omega) ?_ (by omega) _ _ r11 L11 p12 (L12 _ _ e12)
    clear hN
    generalize rp a b = pa at *
    generalize rq a b = qa at *
    generalize rp c d = pc at *
    generalize rq c d = qc at *
    grind
  · refine hN _ _ _ _ (by omega) (by omega) ?_ (by omega) _ _ r14 L14 p15 (L15 _ _ e15)
    clear hN
    generalize rp a b = pa at *
    generalize rq a b = qa at *
    generalize rp c d = pc at *
    generalize rq c d = qc at *
    grind
  · refine hN _ _ _ _ (by omega) (by omega) ?_ (by split <;> omega) _ _ r16 L16 p17 (L17 _ _ e17)
    have ab : ∀ x : Int, (if x < 0 then -x else x) = (x.natAbs : Int) := fun x => by split <;> omega
    have h1 := congrArg Int.natAbs fx3
    rw [Int.natAbs_mul, Int.natAbs_mul] at h1
    have h2 : ((rq a b).natAbs : Int) = rq a b := by omega
    dsimp only
    rw [ab, ab, ab, ← h2, ← Int.natCast_mul, ← Int.natCast_mul, h1]
end
section
variable {P : Program} {w : World} {K : PySem.W.Frag} {mg : Str → Option Value} {base : Heap} {f fD fM Fa M R C : Addr} {cdv : Value} {A : Around} {outer : List Env} {s : Shared} {H0 : Hp} {E0 : XK}
theorem law_3 {v : V} {H : Hp} {vs cx cy : Addr} {wd t as : Option V} {a b c d k : Int} {up : V} (T0 : Fx (LX P w K mg base f cdv A outer s H0 E0) fD fM Fa M R C) {D0 : Ends} (hb : b ≠ 0 ∧ b.natAbs ≤ 30) (hc : c.natAbs ≤ 20) (hd : 1 ≤ d ∧ d ≤ 30) (rx : Rt C H cx (rp a b) (rq a b)) (ry : Rt C H cy (rp c d) (rq c d))
    (q : ∀ (td : Option V) H', Same H H' → QB (LX P w K mg base f cdv A outer s H0 E0) ((defBody (top 22)).drop 12) D0 [some v, some (.ref vs), wd, t, some (.int a), some (.int b), some (.int c), some (.int d), some (.int k), some (.ref cx), some (.ref cy), some up, as, none, none, none, td, none, none, none, none] H') :
    QB (LX P w K mg base f cdv A outer s H0 E0) ((defBody (top 22)).drop 10) D0 [some v, some (.ref vs), wd, t, some (.int a), some (.int b), some (.int c), some (.int d), some (.int k), some (.ref cx), some (.ref cy), some up, as, none, none, none, none, none, none, none, none] H := by
  obtain ⟨hN, nd, hr, tk, n_all, n_range, n_int, n_str, n_abs, n_isinstance, g_did, g_made, g_ratio, o_did, o_made, c_law_state, c_law_take, c_law_is_whole, c_law_says, c_law_same, c_law_common, c_law_sign_at, c_law_fits, c_law_result, m_add, m_sub, m_mul, m_neg, m_size, m_times, m_eq, m_less, m_sign, m_is_zero, m_is_whole, m_floor, m_str, mkR, mkD, T⟩ := T0
  obtain ⟨fx1, fx2, fx3, fx4⟩ := rat_facts a b hb.1
  obtain ⟨fy1, fy2, fy3, fy4⟩ := rat_facts c d (by omega)
  have py := rp_le c d
  obtain ⟨fd1, ps1, O1, O2, O3⟩ := o_did
  have hcz : rq a b * rp c d = 0 ↔ c = 0 := by
    constructor
    · intro e
      rcases Int.mul_eq_zero.mp e with e | e
      · omega
      · rw [e, Int.zero_mul] at fy3
        rcases Int.mul_eq_zero.mp fy3.symm with e | e <;> omega
    · rintro rfl
      have : rp 0 d = 0 := by
        rw [Int.zero_mul] at fy3
        rcases Int.mul_eq_zero.mp fy3 with e | e <;> omega
      rw [this, Int.mul_zero]
  change QB _ (_ :: _ :: (defBody (top 22)).drop 12) _ _ _
  kct_strs
  refine ⟨Nat.le_of_ble_eq_true rfl, fun p1 H1 hp1 s1 e1 => ?_⟩
  kct_strs
  refine ⟨fD, p1, fd1, ps1, _, [.str "over", .ref cx, .ref cy], fun u H2 => ∃ o, u = .ref o ∧ Same H1 H2 ∧ Rt C H2 o (rp (rp a b * rq c d) (rq a b * rp c d)) (rq (rp a b * rq c d) (rq a b * rp c d)) ∧ rq a b * rp c d ≠ 0,
    fun c' d' H2 => c' = .ref R ∧ rq a b * rp c d = 0 ∧ ∃ dd, d' = some dd ∧ Same H1 H2 ∧ H2 dd = some (.xd [("reason", .str "zero")]), rfl, O1, O2, O3, .inl (.inl e1), .inr rfl, fun Q' E' g b' => ?_, ?_, ?_⟩
  · exact ⟨"over", cx, .ref cy, _, _, rfl, rx.to s1, by omega, .inl ⟨rfl, cy, _, _, rfl, ry.to s1, by omega, by omega, fun hne o H' s r => g _ _ ⟨o, rfl, s, r, hne⟩, fun e dd H' s ed => b' _ _ _ ⟨rfl, e, dd, rfl, s, ed⟩⟩⟩
  · rintro u H2 p3 H3 ⟨o, rfl, s2, r2, hne⟩ s3 e3
    have hc0 : c ≠ 0 := fun e => hne (hcz.mpr e)
    have rt : Rp K H3 (.ref p3) (.tup [.str "told", .obj C ["n", "d"] [.int (rp (rp a b * rq c d) (rq a b * rp c d)), .int (rq (rp a b * rq c d) (rq a b * rp c d))]]) := by
      obtain ⟨dz, ez⟩ := r2.to s3
      exact .tupOf e3 (.cons (.str _) (.cons (.obj ez rfl (.cons (.int _) (.cons (.int _) .nil))) .nil))
    kct_strs
    refine ifd (fun e => absurd e hc0) (fun _ => ?_)
    rw [if_neg Bool.false_ne_true]
    kct_strs
    refine ifn (fun _ => ?_) (fun e => absurd e hc0)
    kct_strs
    refine ixw_st (.inl (.inl e3)) (v := .str "told") rfl ?_
    kct_strs
    refine ifn (fun e => absurd rfl e) (fun _ => ?_)
    kct_strs
    refine ixw_st (.inl (.inl e3)) (v := .ref o) rfl ?_
    kct_strs
    refine opw_mul (.inr (by omega)) ?_
    kct_strs
    refine opw_mul (.inr (by omega)) ?_
    kct_strs
    obtain ⟨g1, g2, g3, g4⟩ := rat_facts (rp a b * rq c d) (rq a b * rp c d) hne
    have dsm : (rq a b * rp c d).natAbs < 16384 := by
      rw [Int.natAbs_mul]
      have : (rq a b).natAbs * (rp c d).natAbs ≤ 30 * 20 := Nat.mul_le_mul (by omega) (by omega)
      omega
    have msm : (b * c).natAbs < 16384 := by
      rw [Int.natAbs_mul]
      have : b.natAbs * c.natAbs ≤ 30 * 20 := Nat.mul_le_mul hb.2 hc
      omega
    refine ⟨o, _, _, _, _, rfl, r2.to s3, ⟨g1, by omega⟩, g2, msm, ?_⟩
    have hx : rp (rp a b * rq c d) (rq a b * rp c d) * (b * c) = a * d * rq (rp a b * rq c d) (rq a b * rp c d) := by
      refine stand g3 ?_ hne
      generalize rp a b = pa at *
      generalize rq a b = qa at *
      generalize rp c d = pc at *
      generalize rq c d = qc at *
      grind
    kct_strs
    refine ifnb (fun e => absurd e (by rw [decide_eq_true hx]; decide)) (fun _ => ?_)
    kct_strs
    exact q _ _ (s1.trans (s2.trans s3))
  · rintro c' d' H2 ⟨rfl, hz, dd, rfl, s2, ed⟩
    have hc0 := hcz.mp hz
    refine .inr ⟨rfl, dd, "zero", rfl, ed, fun p3 H3 s3 e3 => ?_⟩
    kct_strs
    refine ifd (fun _ => ?_) (fun e => absurd hc0 e)
    kct_strs
    refine ⟨Nat.le_of_ble_eq_true rfl, fun p4 H4 hp4 s4 e4 => ?_⟩
    kct_strs
    have r3 : Rp K H4 (.ref p3) (.tup [.str "refused", .str "zero"]) := .tupOf (s4 _ _ e3) (.cons (.str _) (.cons (.str _) .nil))
    have r4 : Rp K H4 (.ref p4) (.tup [.str "refused", .str "zero"]) := .tupOf e4 (.cons (.str _) (.cons (.str _) .nil))
    refine opw_ned hr r3 r4 (by decide +kernel) (by decide +kernel) (by decide +kernel) (by decide +kernel) fun bb hbb => ?_
    kct_strs
    refine ifnb (fun e => ?_) (fun _ => ?_)
    · rw [hbb.mpr rfl] at e
      cases e
    kct_strs
    refine ifn (fun e => absurd hc0 e) (fun _ => ?_)
    rw [if_neg Bool.false_ne_true]
    kct_strs
    exact q _ _ ((s1.trans s2).trans (s3.trans s4))
end
section
variable {X : Cx}
theorem eq_rat {Fa M R C : Addr} {mg : Str → Option Value} {H : Hp} {Q : VK} {a b : Addr} {p q p' q' : Int} {k j : Nat} (T : Cls4 X.K mg Fa M R C) (mt : MetX X.prog X.w X.K X.mg X.base CX0 k C "__eq__" (spEqR X.K C)) (hr : Room j X.A) (hk : k ≤ j) (ha : Rt C H a p q) (hb : Rt C H b p' q') (z : ∀ c : Bool, (c = true ↔ p = p' ∧ q = q') → Q (.bl c) H) : OpW X (compareOp .Eq) (.ref a) (.ref b) H Q := by
  obtain ⟨dx, ea⟩ := ha
  obtain ⟨dy, eb⟩ := hb
  refine opw_eqO (tb := .ref C) mt hr hk (by simp [PySem.W.notFirst]) (fun pins σ s u I r => ?_) ea ⟨a, .ref b, p, q, rfl, ⟨dx, ea⟩, .inl ⟨b, p', q', rfl, ⟨dy, eb⟩, z⟩⟩
  cases (show u = Value.ref b from r)
  obtain ⟨ox, od, J⟩ := inst_at I eb
  exact J.type
theorem eq_data {Fa M R C : Addr} {mg : Str → Option Value} {H : Hp} {Q : VK} {a : Addr} {y : V} {d : D} {n : String} {p q : Int} {k j : Nat} (T : Cls4 X.K mg Fa M R C) (mt : MetX X.prog X.w X.K X.mg X.base CX0 k C "__eq__" (spEqR X.K C)) (hr : Room j X.A) (hk : k ≤ j) (ha : Rt C H a p q) (r : Rp X.K H y d) (e : d.ty = some n) (hn : n ≠ "list") (z : Q (.bl false) H) : OpW X (compareOp .Eq) (.ref a) y H Q := by
  obtain ⟨dx, ea⟩ := ha
  refine opw_eqO (tb := .type n) mt hr hk ?_ (fun pins σ s u I ru => looks_ty r e I ru) ea ⟨a, y, p, q, rfl, ⟨dx, ea⟩, .inr ⟨d, n, r, e, hn, z⟩⟩
  cases d <;> simp only [D.ty, Option.some.injEq, reduceCtorEq] at e <;> subst e <;> first | rfl | exact absurd rfl hn
end
theorem says_true {c : Bool} {p : Prop} [Decidable p] (h : c = true ↔ p) : decide (c = decide p) = true := by
  by_cases hp : p
  · simp [hp, h.mpr hp]
  · have : c = false := by
      cases c with
      | false => rfl
      | true => exact absurd (h.mp rfl) hp
    simp [hp, this]
theorem rat_eq {a b c d : Int} (hb : b ≠ 0) (hd : d ≠ 0) : (rp a b = rp c d ∧ rq a b = rq c d) ↔ a * d = b * c := by
  obtain ⟨x1, x2, x3, _⟩ := rat_facts a b hb
  obtain ⟨y1, y2, y3, _⟩ := rat_facts c d hd
  rw [lowest x1 y1 x2 y2]
  generalize rp a b = p at *
  generalize rq a b = q at *
  generalize rp c d = p' at *
  generalize rq c d = q' at *
  constructor
  · intro e
    have : (a * d - b * c) * (q * q') = 0 := by grind
    rcases Int.mul_eq_zero.mp this with h | h
    · omega
    · rcases Int.mul_eq_zero.mp h with h | h <;> omega
  · intro e
    have : (p * q' - p' * q) * (b * d) = 0 := by grind
    rcases Int.mul_eq_zero.mp this with h | h
    · omega
    · rcases Int.mul_eq_zero.mp h with h | h
      · exact absurd h hb
      · exact absurd h hd
/-- the two with the lower one made positive -/
theorem up_den {p q a b u : Int} (hu : u = if 0 < b then 1 else -1) (hb : b ≠ 0) (h : p * b = a * q) : 0 < b * u ∧ (if b < 0 then -b else b) = b * u ∧ p * (b * u) = a * u * q := by
  refine ⟨?_, ?_, ?_⟩
  · rw [hu]; split <;> omega
  · rw [hu]; split <;> split <;> omega
  · rw [← Int.mul_assoc, h, Int.mul_right_comm]
theorem up_flo {p q A B : Int} (hq : 0 < q) (hB : 0 < B) (h : p * B = A * q) : p / q = A / B := by
  rw [← Int.mul_ediv_mul_of_pos_left p q hB, h, Int.mul_comm q B, Int.mul_ediv_mul_of_pos_left A B hq]
theorem up_pos {p q A B : Int} (hq : 0 < q) (hB : 0 < B) (h : p * B = A * q) : (0 < p ↔ 0 < A) ∧ (p < 0 ↔ A < 0) := by
  rcases Int.lt_trichotomy p 0 with hp | hp | hp <;> rcases Int.lt_trichotomy A 0 with hA | hA | hA
  · omega
  · subst hA; have := Int.mul_neg_of_neg_of_pos hp hB; omega
  · have := Int.mul_neg_of_neg_of_pos hp hB; have := Int.mul_pos hA hq; omega
  · subst hp; have := Int.mul_neg_of_neg_of_pos hA hq; omega
  · omega
  · subst hp; have := Int.mul_pos hA hq; omega
  · have := Int.mul_neg_of_neg_of_pos hA hq; have := Int.mul_pos hp hB; omega
  · subst hA; have := Int.mul_pos hp hB; omega
  · omega
theorem up_zero {p q a b : Int} (hq : 0 < q) (hb : b ≠ 0) (h : p * b = a * q) : p = 0 ↔ a = 0 := by
  constructor
  · rintro rfl
    rw [Int.zero_mul] at h
    rcases Int.mul_eq_zero.mp h.symm with e | e <;> omega
  · rintro rfl
    rw [Int.zero_mul] at h
    rcases Int.mul_eq_zero.mp h with e | e <;> omega
theorem up_whole {p q a b B : Int} (hq : 0 < q) (hb : b ≠ 0) (hB : B = b ∨ B = -b) (g : Int.gcd p q = 1) (h : p * b = a * q) : q = 1 ↔ a % B = 0 := by
  have e0 : a % B = 0 ↔ b ∣ a := by
    rw [← Int.dvd_iff_emod_eq_zero]
    rcases hB with rfl | rfl
    · rfl
    · exact Int.neg_dvd
  rw [e0]
  constructor
  · rintro rfl
    exact ⟨p, by rw [Int.mul_one] at h; rw [← h, Int.mul_comm]⟩
  · rintro ⟨k, rfl⟩
    have e1 : p = k * q := by
      apply Int.eq_of_mul_eq_mul_right hb
      rw [h]
      simp only [Int.mul_assoc, Int.mul_left_comm, Int.mul_comm]
    rw [e1, Int.gcd_mul_left_left] at g
    omega
theorem up_less {p q p' q' A B c d : Int} (hq : 0 < q) (hq' : 0 < q') (hB : 0 < B) (hd : 0 < d) (h : p * B = A * q) (h' : p' * d = c * q') : p * q' < p' * q ↔ A * d < c * B := by
  have e1 : (p * q') * (B * d) = (A * d) * (q * q') := by
    calc (p * q') * (B * d) = (p * B) * (q' * d) := by simp only [Int.mul_assoc, Int.mul_left_comm, Int.mul_comm]
      _ = (A * d) * (q * q') := by rw [h]; simp only [Int.mul_assoc, Int.mul_left_comm, Int.mul_comm]
  have e2 : (p' * q) * (B * d) = (c * B) * (q * q') := by
    calc (p' * q) * (B * d) = (p' * d) * (q * B) := by simp only [Int.mul_assoc, Int.mul_left_comm, Int.mul_comm]
      _ = (c * B) * (q * q') := by rw [h']; simp only [Int.mul_assoc, Int.mul_left_comm, Int.mul_comm]
  have h1 := Int.mul_pos hB hd
  have h2 := Int.mul_pos hq hq'
  constructor
  · intro l
    have := Int.mul_lt_mul_of_pos_right l h1
    rw [e1, e2] at this
    exact Int.lt_of_mul_lt_mul_right this (Int.le_of_lt h2)
  · intro l
    have := Int.mul_lt_mul_of_pos_right l h2
    rw [← e1, ← e2] at this
    exact Int.lt_of_mul_lt_mul_right this (Int.le_of_lt h1)
theorem four_ty {C : Addr} {a p q : Int} {d : D} (h : d ∈ [D.int (a + 1), .non, .str "x", .tup [.obj C ["n", "d"] [.int p, .int q]]]) : ∃ n, d.ty = some n ∧ n ≠ "list" := by
  simp only [List.mem_cons, List.not_mem_nil, or_false] at h
  rcases h with rfl | rfl | rfl | rfl <;> exact ⟨_, rfl, by decide⟩
section
variable {P : Program} {w : World} {K : PySem.W.Frag} {mg : Str → Option Value} {base : Heap} {f fD fM Fa M R C : Addr} {cdv : Value} {A : Around} {outer : List Env} {s : Shared} {H0 : Hp} {E0 : XK}
theorem law_4 {v : V} {H : Hp} {vs cx cy : Addr} {wd t as td : Option V} {a b c d k : Int} {up : V} (T0 : Fx (LX P w K mg base f cdv A outer s H0 E0) fD fM Fa M R C) {D0 : Ends} (ha : a.natAbs < 2 ^ 800) (hb : b ≠ 0 ∧ b.natAbs ≤ 30) (hc : c.natAbs ≤ 20) (hd : 1 ≤ d ∧ d ≤ 30) (rx : Rt C H cx (rp a b) (rq a b)) (ry : Rt C H cy (rp c d) (rq c d))
    (q : ∀ H', Same H H' → QB (LX P w K mg base f cdv A outer s H0 E0) ((defBody (top 22)).drop 13) D0 [some v, some (.ref vs), wd, t, some (.int a), some (.int b), some (.int c), some (.int d), some (.int k), some (.ref cx), some (.ref cy), some up, as, none, none, none, td, none, none, none, none] H') :
    QB (LX P w K mg base f cdv A outer s H0 E0) ((defBody (top 22)).drop 12) D0 [some v, some (.ref vs), wd, t, some (.int a), some (.int b), some (.int c), some (.int d), some (.int k), some (.ref cx), some (.ref cy), some up, as, none, none, none, td, none, none, none, none] H := by
  obtain ⟨hN, nd, hr, tk, n_all, n_range, n_int, n_str, n_abs, n_isinstance, g_did, g_made, g_ratio, o_did, o_made, c_law_state, c_law_take, c_law_is_whole, c_law_says, c_law_same, c_law_common, c_law_sign_at, c_law_fits, c_law_result, m_add, m_sub, m_mul, m_neg, m_size, m_times, m_eq, m_less, m_sign, m_is_zero, m_is_whole, m_floor, m_str, mkR, mkD, T⟩ := T0
  change QB _ (_ :: (defBody (top 22)).drop 13) _ _ _
  kct_strs
  refine eq_rat T m_eq hr (by decide) rx ry fun e he => ?_
  kct_strs
  refine opw_mul (.inr (by omega)) ?_
  kct_strs
  refine opw_mul (.inr (by omega)) ?_
  kct_strs
  refine ⟨_, _, rfl, ?_⟩
  kct_strs
  rw [says_true (he.trans (rat_eq hb.1 (by omega)))]
  refine ifnb (fun e => by cases e) (fun _ => ?_)
  kct_strs
  refine opw_mul (.inl (by omega)) ?_
  kct_strs
  refine opw_mul (.inl (by omega)) ?_
  kct_strs
  intro c1 dx1 H1 hx1 s1 e1 ed1 ne1
  refine init_law hx1 s1 e1 (by omega) (by omega) (fun H2 s2 r2 => ?_)
  kct_strs
  refine eq_rat T m_eq hr (by decide) (rx.to s2) r2 fun e he => ?_
  kct_strs
  refine ⟨_, _, rfl, ?_⟩
  kct_strs
  have e3 : e = true := he.mpr ((rat_eq hb.1 (by omega)).mpr (by rw [Int.mul_left_comm, Int.mul_left_comm b, Int.mul_comm a b]))
  rw [e3]
  refine ifnb (fun e => by cases e) (fun _ => ?_)
  kct_strs
  mem_news
  kct_strs
  refine ⟨Nat.le_of_ble_eq_true rfl, fun p4 H4 hp4 s4 e4 => ?_⟩
  kct_strs
  refine ⟨Nat.le_of_ble_eq_true rfl, fun p5 H5 hp5 s5 e5 => ?_⟩
  have S5 := s2.trans (s4.trans s5)
  obtain ⟨dz, ez⟩ := rx.to S5
  have hz : (1000 : Nat) < sizeLine := by decide
  refine ⟨[.int (a + 1), .non, .str "x", .tup [.obj C ["n", "d"] [.int (rp a b), .int (rq a b)]]], .tupOf e5 (.cons (.int _) (.cons .non (.cons (.str _) (.cons (.tupOf (s5 _ _ e4) (.cons (.obj ez rfl (.cons (.int _) (.cons (.int _) .nil))) .nil)) .nil)))), by simp; omega, fun _ => .bl true, ⟨fun _ _ => rfl, fun d u H6 hd s6 r => ?_⟩, fun p H6 ys s6 hp hp6 r => ?_⟩
  · obtain ⟨n, hn1, hn2⟩ := four_ty hd
    intro s0 H00 C0 cl fp
    kct_strs
    refine eq_data T m_eq hr (by decide) (rx.to (S5.trans s6)) r hn1 hn2 ?_
    kct_strs
    exact ⟨_, _, rfl, Same.refl _, .bl _⟩
  · kct_strs
    refine callw_all rfl hp6 (bs := [true, true, true, true]) r ?_
    kct_strs
    rw [show [true, true, true, true].all id = true from rfl, if_neg (by decide)]
    kct_strs
    exact q _ (S5.trans s6)
end
theorem log_le {n : Int} (h : n.natAbs < 2 ^ 800) : n.natAbs.log2 < 1900 := by
  by_cases e : n.natAbs = 0
  · rw [e]; decide
  · have := (Nat.log2_lt e).mpr h
    omega
theorem str_nil (a : Str) : a ++ ("" : Str) = a := by
  obtain ⟨a⟩ := a
  show Str.mk (a ++ #[]) = Str.mk a
  rw [Array.append_empty]
section
variable {P : Program} {w : World} {K : PySem.W.Frag} {mg : Str → Option Value} {base : Heap} {f fD fM Fa M R C : Addr} {cdv : Value} {A : Around} {outer : List Env} {s : Shared} {H0 : Hp} {E0 : XK}
theorem law_5 {v : V} {H : Hp} {vs cx cy : Addr} {wd t as td : Option V} {a b c d k u : Int} (T0 : Fx (LX P w K mg base f cdv A outer s H0 E0) fD fM Fa M R C) {D0 : Ends} (ha : a.natAbs < 2 ^ 800) (hb : b ≠ 0 ∧ b.natAbs ≤ 30) (hc : c.natAbs ≤ 20) (hd : 1 ≤ d ∧ d ≤ 30) (rx : Rt C H cx (rp a b) (rq a b)) (ry : Rt C H cy (rp c d) (rq c d)) (hu : u = if 0 < b then 1 else -1)
    (q : ∀ low : Option V, QB (LX P w K mg base f cdv A outer s H0 E0) ((defBody (top 22)).drop 17) D0 [some v, some (.ref vs), wd, t, some (.int a), some (.int b), some (.int c), some (.int d), some (.int k), some (.ref cx), some (.ref cy), some (.int u), as, none, none, none, td, none, low, none, none] H) :
    QB (LX P w K mg base f cdv A outer s H0 E0) ((defBody (top 22)).drop 13) D0 [some v, some (.ref vs), wd, t, some (.int a), some (.int b), some (.int c), some (.int d), some (.int k), some (.ref cx), some (.ref cy), some (.int u), as, none, none, none, td, none, none, none, none] H := by
  obtain ⟨hN, nd, hr, tk, n_all, n_range, n_int, n_str, n_abs, n_isinstance, g_did, g_made, g_ratio, o_did, o_made, c_law_state, c_law_take, c_law_is_whole, c_law_says, c_law_same, c_law_common, c_law_sign_at, c_law_fits, c_law_result, m_add, m_sub, m_mul, m_neg, m_size, m_times, m_eq, m_less, m_sign, m_is_zero, m_is_whole, m_floor, m_str, mkR, mkD, T⟩ := T0
  obtain ⟨fx1, fx2, fx3, fx4⟩ := rat_facts a b hb.1
  obtain ⟨fy1, fy2, fy3, fy4⟩ := rat_facts c d (by omega)
  have px := log_le (Nat.lt_of_le_of_lt (rp_le a b) ha)
  obtain ⟨B1, B2, B3⟩ := up_den hu hb.1 fx3
  have hu2 : u = 1 ∨ u = -1 := by rw [hu]; split <;> omega
  have L1 : rp a b * rq c d < rp c d * rq a b ↔ a * d * u < c * b * u := by
    have := up_less fx1 fy1 B1 (show 0 < d by omega) B3 fy3
    rw [Int.mul_right_comm a u d, ← Int.mul_assoc c b u] at this
    exact this
  have L2 := up_flo fx1 B1 B3
  have L3 := up_pos fx1 B1 B3
  have L4 := up_zero fx1 hb.1 fx3
  have L5 : rq a b = 1 ↔ a % (if b < 0 then -b else b) = 0 := up_whole fx1 hb.1 (by split <;> simp) fx2 fx3
  have qx : 0 < rq a b ∧ rq a b < 16384 ∧ (rp a b).natAbs.log2 < 1900 := ⟨fx1, by omega, px⟩
  obtain ⟨dx, hx⟩ := rx
  obtain ⟨dy, hy⟩ := ry
  have al : ∀ (m : Str) (p q : Int), (m == "n") = false → (m == "d") = false → List.lookup m [(("n" : Str), V.int p), ("d", V.int q)] = none := fun m p q h1 h2 => by simp [List.lookup, h1, h2]
  change QB _ (_ :: (defBody (top 22)).drop 14) _ _ _
  kct_strs
  refine we_methX T.iC.cl m_less tk hr (by decide) ?_ rfl rfl rfl
  kct_strs
  refine ⟨cx, dx, _, rfl, hx, al _ _ _ (by decide) (by decide), ?_⟩
  kct_strs
  refine ⟨cx, .ref cy, _, _, rfl, ⟨dx, hx⟩, by omega, .inl ⟨cy, _, _, rfl, ⟨dy, hy⟩, by omega, ?_⟩⟩
  show QA _ _ _ _ _
  kct_strs
  refine opw_mul (.inr (by omega)) ?_
  kct_strs
  refine opw_mul (.inr (by omega)) ?_
  kct_strs
  refine opw_mul (.inr (by omega)) ?_
  kct_strs
  refine opw_mul (.inr (by omega)) ?_
  kct_strs
  refine ⟨_, _, rfl, ?_⟩
  kct_strs
  rw [says_true (decide_eq_true_iff.trans L1)]
  refine ifnb (fun e => by cases e) (fun _ => ?_)
  kct_strs
  refine we_methX T.iC.cl m_less tk hr (by decide) ?_ rfl rfl rfl
  kct_strs
  refine ⟨cy, dy, _, rfl, hy, al _ _ _ (by decide) (by decide), ?_⟩
  kct_strs
  refine ⟨cy, .ref cy, _, _, rfl, ⟨dy, hy⟩, by omega, .inl ⟨cy, _, _, rfl, ⟨dy, hy⟩, by omega, ?_⟩⟩
  show QA _ _ _ _ _
  kct_strs
  refine ⟨_, _, rfl, ?_⟩
  kct_strs
  rw [show decide (decide (rp c d * rq c d < rp c d * rq c d) = false) = true by simp]
  refine ifnb (fun e => by cases e) (fun _ => ?_)
  kct_strs
  change QB _ (_ :: (defBody (top 22)).drop 15) _ _ _
  kct_strs
  refine opw_mul (.inr (by omega)) ?_
  kct_strs
  refine opw_div ⟨by split <;> omega, by split <;> omega⟩ ?_
  kct_strs
  change QB _ (_ :: (defBody (top 22)).drop 16) _ _ _
  rw [B2, ← L2]
  kct_strs
  refine we_meth0 T.iC.cl m_floor hr (by decide) ?_ rfl
  kct_strs
  refine ⟨cx, dx, _, rfl, hx, al _ _ _ (by decide) (by decide), ?_⟩
  refine ⟨cx, _, _, rfl, ⟨dx, hx⟩, qx, ?_⟩
  show QA _ _ _ _ _
  kct_strs
  refine .inl ⟨_, _, rfl, ?_⟩
  kct_strs
  rw [decide_eq_true (rfl : rp a b / rq a b = rp a b / rq a b)]
  refine ifnb (fun e => by cases e) (fun _ => ?_)
  kct_strs
  refine we_meth0 T.iC.cl m_sign hr (by decide) ?_ rfl
  kct_strs
  refine ⟨cx, dx, _, rfl, hx, al _ _ _ (by decide) (by decide), ?_⟩
  refine ⟨cx, _, _, rfl, ⟨dx, hx⟩, qx, ?_⟩
  show QA _ _ _ _ _
  kct_strs
  refine opw_mul (.inr (by omega)) ?_
  kct_strs
  refine ⟨_, rfl, ?_⟩
  kct_strs
  refine .inl ⟨_, _, rfl, ?_⟩
  kct_strs
  rw [decide_eq_true (show (if 0 < rp a b then (1 : Int) else if rp a b < 0 then -1 else 0) = if 0 < a * u then 1 else if a * u < 0 then -1 else 0 by simp only [L3.1, L3.2])]
  refine ifnb (fun e => by cases e) (fun _ => ?_)
  kct_strs
  refine we_meth0 T.iC.cl m_is_zero hr (by decide) ?_ rfl
  kct_strs
  refine ⟨cx, dx, _, rfl, hx, al _ _ _ (by decide) (by decide), ?_⟩
  refine ⟨cx, _, _, rfl, ⟨dx, hx⟩, qx, ?_⟩
  show QA _ _ _ _ _
  kct_strs
  refine ⟨_, _, rfl, ?_⟩
  kct_strs
  rw [says_true (decide_eq_true_iff.trans L4)]
  refine ifnb (fun e => by cases e) (fun _ => ?_)
  kct_strs
  refine we_meth0 T.iC.cl m_is_whole hr (by decide) ?_ rfl
  kct_strs
  refine ⟨cx, dx, _, rfl, hx, al _ _ _ (by decide) (by decide), ?_⟩
  refine ⟨cx, _, _, rfl, ⟨dx, hx⟩, qx, ?_⟩
  show QA _ _ _ _ _
  kct_strs
  refine opw_mod (by split <;> omega) ?_
  kct_strs
  refine ⟨_, _, rfl, ?_⟩
  kct_strs
  rw [says_true (decide_eq_true_iff.trans L5)]
  refine ifnb (fun e => by cases e) (fun _ => ?_)
  kct_strs
  change QB _ (_ :: (defBody (top 22)).drop 17) _ _ _
  have h1 := int_len (i := rp a b) (k := 1900) (by omega) px
  have hl : (rq a b).natAbs.log2 < 14 := (Nat.log2_lt (by omega)).mpr (show (rq a b).natAbs < 2 ^ 14 by omega)
  have h2 := int_len (i := rq a b) (k := 14) (by omega) hl
  have hz : (4000 : Nat) < sizeLine := by decide
  kct_strs
  refine callw_strOwn m_str hr (by decide) hx ?_
  refine ⟨cx, _, _, rfl, ⟨dx, hx⟩, qx, _, rfl, ?_⟩
  show QA _ _ _ _ _
  kct_strs
  refine fldw_raw T.iC.cl T.an hx rfl ?_
  kct_strs
  refine callw_strI (by omega) ?_
  kct_strs
  refine fldw_raw T.iC.cl T.ad hx rfl ?_
  kct_strs
  refine ifd (fun e => ?_) (fun e => ?_)
  · kct_strs
    refine opw_of op_add_str ⟨_, _, rfl, rfl, by rw [show (("" : Str)).length = 0 from rfl]; omega, ?_⟩
    kct_strs
    refine .inr ⟨_, _, rfl, ?_⟩
    rw [decide_eq_true (show told (rp a b) (rq a b) = _ by unfold told; rw [if_pos e, str_nil])]
    kct_strs
    refine ifnb (fun e => by cases e) (fun _ => ?_)
    kct_strs
    exact q _
  · kct_strs
    refine fldw_raw T.iC.cl T.ad hx rfl ?_
    kct_strs
    refine callw_strI (by omega) ?_
    kct_strs
    refine opw_of op_add_str ⟨_, _, rfl, rfl, by rw [show (("/" : Str)).length = 1 from rfl]; omega, ?_⟩
    kct_strs
    refine opw_of op_add_str ⟨_, _, rfl, rfl, by rw [str_len, show (("/" : Str)).length = 1 from rfl]; omega, ?_⟩
    kct_strs
    refine .inr ⟨_, _, rfl, ?_⟩
    rw [decide_eq_true (show told (rp a b) (rq a b) = _ by unfold told; rw [if_neg e])]
    kct_strs
    refine ifnb (fun e => by cases e) (fun _ => ?_)
    kct_strs
    exact q _
end
theorem opw_ne_bi {X : Cx} {H : Hp} {Q : VK} {b : Bool} {i : Int} (q : Q (.bl (!((if b then (1 : Int) else 0) == i))) H) : OpW X (compareOp .NotEq) (.bl b) (.int i) H Q := by
  intro pins s σ u w I rx ry
  cases rx
  obtain ⟨t, rfl⟩ := ry
  exact PySem.EqBoolInt.ne_bool_int (fin_bl I q rfl)
theorem opw_repL {X : Cx} {H : Hp} {Q : VK} {a : Addr} {k : Int} {xs : List V} (h : H a = some (.lst xs)) (h1 : -(2 ^ 63) ≤ k) (h2 : k < 2 ^ 63) (hz : xs.length * k.toNat ≤ sizeLine) (q : ∀ p H', Same H H' → H' p = some (.lst (List.replicate k.toNat xs).flatten) → Q (.ref p) H') : OpW X (binaryOp .Mult) (.ref a) (.int k) H Q :=
  opw_of op_rep ⟨_, _, _, rfl, rfl, h, h1, h2, hz, fun p hp => q p _ (same_new hp) upd_same⟩
section
variable {P : Program} {w : World} {K : PySem.W.Frag} {mg : Str → Option Value} {base : Heap} {fD fM M R C : Addr}
theorem did_bad {H : Hp} {Q : VK} {E : XK} {cx p1 : Addr} {u : V} {d : D} {n : String} {z : Str} {p q : Int} (O : ∃ fd ps, FnOk P w K mg base (L2.CX P w) 8 fD fd ps (spDid K M R C) ∧ PySem.W.keepIn K (.ref fD) = true ∧ Binds K fd ps []) (hz : z = "plus" ∨ z = "less" ∨ z = "times" ∨ z = "below" ∨ z = "over")
    (rx : Rt C H cx p q) (hq : q.natAbs < 16384) (r : Rp K H u d) (e : d.ty = some n) (hn : n ≠ "list") (e1 : H p1 = some (.tup [.str z, .ref cx, u])) (g : ∀ p H', Same H H' → H' p = some (.tup [.str "malformed", .non]) → Q (.ref p) H') : spRes P w K mg base M R [.ref fD, .ref p1] H Q E := by
  obtain ⟨fd1, ps1, O1, O2, O3⟩ := O
  refine ⟨fD, p1, fd1, ps1, _, [.str z, .ref cx, u], fun _ _ => False, fun c _ H2 => c = .ref M ∧ Same H H2, rfl, O1, O2, O3, .inl (.inl e1), .inr rfl, fun Q' E' _ b' => ?_, fun _ _ _ _ h => h.elim, ?_⟩
  · exact ⟨z, cx, u, p, q, rfl, rx, hq, .inr ⟨hz, d, n, r, e, hn, b' _ _ _ ⟨rfl, Same.refl _⟩⟩⟩
  · rintro c d' H2 ⟨rfl, s2⟩
    exact .inl ⟨rfl, fun p H' s3 e3 => g p H' (s2.trans s3) e3⟩
theorem made_bad {H : Hp} {Q : VK} {E : XK} {p1 : Addr} {x y : V} {d1 d2 : D} (O : ∃ fd ps, FnOk P w K mg base (L2.CX P w) 8 fM fd ps (spMade K M R C) ∧ PySem.W.keepIn K (.ref fM) = true ∧ Binds K fd ps [])
    (r1 : Rp K H x d1) (r2 : Rp K H y d2) (t1 : d1.ty.isSome = true) (t2 : d2.ty.isSome = true) (hs : ∀ j, d2 = .int j → j.natAbs < 1073741824) (hw : (d1.whole && d2.whole) = false) (e1 : H p1 = some (.tup [x, y])) (g : ∀ p H', Same H H' → H' p = some (.tup [.str "malformed", .non]) → Q (.ref p) H') : spRes P w K mg base M R [.ref fM, .ref p1] H Q E := by
  obtain ⟨fd1, ps1, O1, O2, O3⟩ := O
  refine ⟨fM, p1, fd1, ps1, _, [x, y], fun _ _ => False, fun c _ H2 => c = .ref M ∧ Same H H2, rfl, O1, O2, O3, .inl (.inl e1), .inl rfl, fun Q' E' _ b' => ?_, fun _ _ _ _ h => h.elim, ?_⟩
  · refine ⟨x, y, d1, d2, rfl, r1, r2, t1, t2, hs, fun _ H' s' => b' _ _ _ ⟨rfl, s'⟩, fun n e2 e3 => ?_, fun n m e2 e3 => ?_⟩
    · subst e2; subst e3; cases hw
    · subst e2; subst e3; cases hw
  · rintro c d' H2 ⟨rfl, s2⟩
    exact .inl ⟨rfl, fun p H' s3 e3 => g p H' (s2.trans s3) e3⟩
theorem made_zero {H : Hp} {Q : VK} {E : XK} {p1 : Addr} {n : Int} (O : ∃ fd ps, FnOk P w K mg base (L2.CX P w) 8 fM fd ps (spMade K M R C) ∧ PySem.W.keepIn K (.ref fM) = true ∧ Binds K fd ps [])
    (e1 : H p1 = some (.tup [.int n, .int 0])) (g : ∀ p H', Same H H' → H' p = some (.tup [.str "refused", .str "zero"]) → Q (.ref p) H') : spRes P w K mg base M R [.ref fM, .ref p1] H Q E := by
  obtain ⟨fd1, ps1, O1, O2, O3⟩ := O
  refine ⟨fM, p1, fd1, ps1, _, [.int n, .int 0], fun _ _ => False, fun c d' H2 => c = .ref R ∧ ∃ dd, d' = some dd ∧ Same H H2 ∧ H2 dd = some (.xd [("reason", .str "zero")]), rfl, O1, O2, O3, .inl (.inl e1), .inl rfl, fun Q' E' _ b' => ?_, fun _ _ _ _ h => h.elim, ?_⟩
  · refine ⟨.int n, .int 0, .int n, .int 0, rfl, .int _, .int _, rfl, rfl, (fun j e => by cases e; decide), (fun e => by cases e), fun m _ _ d H' s' ed => b' _ _ _ ⟨rfl, d, rfl, s', ed⟩, fun m m2 e2 e3 hm => ?_⟩
    cases e3
    exact absurd rfl hm
  · rintro c d' H2 ⟨rfl, dd, rfl, s2, ed⟩
    exact .inr ⟨rfl, dd, "zero", rfl, ed, fun p H' s3 e3 => g p H' (s2.trans s3) e3⟩
end
def lb6 : List Stmt := match (defBody (top 22)).getD 17 (.Pass ⟨0, 0, 0, 0⟩) with
  | .For _ _ b _ _ => b
  | _ => []
section
variable {P : Program} {w : World} {K : PySem.W.Frag} {mg : Str → Option Value} {base : Heap} {f fD fM Fa M R C : Addr} {cdv : Value} {A : Around} {outer : List Env} {s : Shared} {H0 : Hp} {E0 : XK}
theorem five_ok {d : D} (h : d ∈ [D.str "plus", .str "less", .str "times", .str "below", .str "over"]) : ∃ z, d = .str z ∧ (z = "plus" ∨ z = "less" ∨ z = "times" ∨ z = "below" ∨ z = "over") := by
  simp only [List.mem_cons, List.not_mem_nil, or_false] at h
  rcases h with rfl | rfl | rfl | rfl | rfl
  · exact ⟨_, rfl, .inl rfl⟩
  · exact ⟨_, rfl, .inr (.inl rfl)⟩
  · exact ⟨_, rfl, .inr (.inr (.inl rfl))⟩
  · exact ⟨_, rfl, .inr (.inr (.inr (.inl rfl)))⟩
  · exact ⟨_, rfl, .inr (.inr (.inr (.inr rfl)))⟩
theorem law_b1 {v u : V} {H : Hp} {vs cx cy : Addr} {wd t as td low : Option V} {a b c d k : Int} {up : V} {du : D} {n : String} (T0 : Fx (LX P w K mg base f cdv A outer s H0 E0) fD fM Fa M R C) {D0 : Ends} (hq : (rq a b).natAbs < 16384) (rx : Rt C H cx (rp a b) (rq a b)) (r : Rp K H u du) (e : du.ty = some n) (hn : n ≠ "list")
    (q : ∀ H', Same H H' → QB (LX P w K mg base f cdv A outer s H0 E0) (lb6.drop 1) D0 [some v, some (.ref vs), wd, t, some (.int a), some (.int b), some (.int c), some (.int d), some (.int k), some (.ref cx), some (.ref cy), some up, as, none, none, none, td, none, low, some u, none] H') :
    QB (LX P w K mg base f cdv A outer s H0 E0) lb6 D0 [some v, some (.ref vs), wd, t, some (.int a), some (.int b), some (.int c), some (.int d), some (.int k), some (.ref cx), some (.ref cy), some up, as, none, none, none, td, none, low, some u, none] H := by
  obtain ⟨hN, nd, hr, tk, n_all, n_range, n_int, n_str, n_abs, n_isinstance, g_did, g_made, g_ratio, o_did, o_made, c_law_state, c_law_take, c_law_is_whole, c_law_says, c_law_same, c_law_common, c_law_sign_at, c_law_fits, c_law_result, m_add, m_sub, m_mul, m_neg, m_size, m_times, m_eq, m_less, m_sign, m_is_zero, m_is_whole, m_floor, m_str, mkR, mkD, T⟩ := T0
  have hz : (1000 : Nat) < sizeLine := by decide
  change QB _ (_ :: lb6.drop 1) _ _ _
  kct_strs
  mem_news
  kct_strs
  refine ⟨Nat.le_of_ble_eq_true rfl, fun p1 H1 hp1 s1 e1 => ?_⟩
  refine ⟨[.str "plus", .str "less", .str "times", .str "below", .str "over"], .tupOf e1 (.cons (.str _) (.cons (.str _) (.cons (.str _) (.cons (.str _) (.cons (.str _) .nil))))), by simp; omega, fun _ => .str "malformed", ⟨fun _ _ => rfl, fun d1 u1 H2 hd1 s2 r1 => ?_⟩, fun p H2 ys s2 hp hp2 r2 => ?_⟩
  · obtain ⟨z, rfl, hz1⟩ := five_ok hd1
    obtain rfl := r1.str_inv
    intro s0 H00 C0 cl fp
    kct_strs
    refine ⟨Nat.le_of_ble_eq_true rfl, fun p3 H3 hp3 s3 e3 => ?_⟩
    have S3 := s1.trans (s2.trans s3)
    kct_strs
    refine did_bad o_did hz1 (rx.to S3) hq (r.to S3) e hn e3 fun p4 H4 s4 e4 => ?_
    kct_strs
    refine ixw_st (.inl (.inl e4)) (v := .str "malformed") rfl ?_
    exact ⟨s3.trans s4, .str _⟩
  · kct_strs
    refine ⟨Nat.le_of_ble_eq_true rfl, fun p3 H3 hp3 s3 e3 => ?_⟩
    kct_strs
    refine opw_repL e3 (by decide) (by decide) (by show 1 * 5 ≤ _; omega) fun p4 H4 s4 e4 => ?_
    kct_strs
    have q1 : Rp K H4 (.ref p) (.lst [.str "malformed", .str "malformed", .str "malformed", .str "malformed", .str "malformed"]) := Rp.to (.lstOf hp2 r2) (s3.trans s4)
    have q2 : Rp K H4 (.ref p4) (.lst [.str "malformed", .str "malformed", .str "malformed", .str "malformed", .str "malformed"]) := .lstOf e4 (.cons (.str _) (.cons (.str _) (.cons (.str _) (.cons (.str _) (.cons (.str _) .nil)))))
    refine opw_ned hr q1 q2 (by decide +kernel) (by decide +kernel) (by decide +kernel) (by decide +kernel) fun bb hbb => ?_
    kct_strs
    rw [hbb.mpr rfl]
    refine ifnb (fun e => by cases e) (fun _ => ?_)
    kct_strs
    exact q _ ((s1.trans s2).trans (s3.trans s4))
theorem law_b2 {v u : V} {H : Hp} {vs cx cy : Addr} {wd t as td low : Option V} {a b c d k : Int} {up : V} {du : D} (T0 : Fx (LX P w K mg base f cdv A outer s H0 E0) fD fM Fa M R C) {D0 : Ends} (r : Rp K H u du) (hd : du = .int 5 ∨ ((du = .non ∨ du = .bl true ∨ du = .str "1" ∨ du = .tup [.int 1])))
    (q : ∀ H', Same H H' → D0.nx [some v, some (.ref vs), wd, t, some (.int a), some (.int b), some (.int c), some (.int d), some (.int k), some (.ref cx), some (.ref cy), some up, as, none, none, none, td, none, low, some u, none] H') :
    QB (LX P w K mg base f cdv A outer s H0 E0) (lb6.drop 1) D0 [some v, some (.ref vs), wd, t, some (.int a), some (.int b), some (.int c), some (.int d), some (.int k), some (.ref cx), some (.ref cy), some up, as, none, none, none, td, none, low, some u, none] H := by
  obtain ⟨hN, nd, hr, tk, n_all, n_range, n_int, n_str, n_abs, n_isinstance, g_did, g_made, g_ratio, o_did, o_made, c_law_state, c_law_take, c_law_is_whole, c_law_says, c_law_same, c_law_common, c_law_sign_at, c_law_fits, c_law_result, m_add, m_sub, m_mul, m_neg, m_size, m_times, m_eq, m_less, m_sign, m_is_zero, m_is_whole, m_floor, m_str, mkR, mkD, T⟩ := T0
  have hz : (1000 : Nat) < sizeLine := by decide
  have ne5 : ∀ (Q : VK), (∀ c : Bool, (c = false → du = .int 5) → (c = true → (du = .non ∨ du = .bl true ∨ du = .str "1" ∨ du = .tup [.int 1])) → Q (.bl c) H) → OpW (LX P w K mg base f cdv A outer s H0 E0) (compareOp .NotEq) u (.int 5) H Q := by
    intro Q g
    have hp : du = .bl true ∨ (du.pure = true ∧ du.dep ≤ 64) := by
      rcases hd with rfl | rfl | rfl | rfl | rfl
      · exact .inr (by decide +kernel)
      · exact .inr (by decide +kernel)
      · exact .inl rfl
      · exact .inr (by decide +kernel)
      · exact .inr (by decide +kernel)
    rcases hp with rfl | ⟨h1, h2⟩
    · obtain rfl := r.bl_inv
      exact opw_ne_bi (g _ (fun e => by cases e) fun _ => .inr (.inl rfl))
    · refine opw_ned hr r (.int 5) h1 (by decide +kernel) h2 (by decide +kernel) fun bb hbb => ?_
      cases bb with
      | true => exact g false (fun _ => hbb.mp rfl) (fun e => by cases e)
      | false =>
        refine g true (fun e => by cases e) fun _ => hd.resolve_left fun e => ?_
        have := hbb.mpr e
        cases this
  change QB _ (_ :: []) _ _ _
  kct_strs
  refine ne5 _ fun cc h1 h2 => ?_
  kct_strs
  refine ifb (fun e => ?_) (fun e => ?_)
  · have hb := h2 e
    have tw : du.ty.isSome = true ∧ du.whole = false ∧ (∀ j, du = .int j → j.natAbs < 1073741824) := by
      rcases hb with rfl | rfl | rfl | rfl <;> exact ⟨rfl, rfl, fun j e => by cases e⟩
    kct_strs
    refine ⟨Nat.le_of_ble_eq_true rfl, fun p1 H1 hp1 s1 e1 => ?_⟩
    kct_strs
    refine ⟨Nat.le_of_ble_eq_true rfl, fun p2 H2 hp2 s2 e2 => ?_⟩
    kct_strs
    refine made_bad o_made (r.to (s1.trans s2)) (.int 1) tw.1 rfl (fun j e => by cases e; decide) (by rw [tw.2.1]; rfl) e2 fun p3 H3 s3 e3 => ?_
    kct_strs
    refine ixw_st (.inl (.inl e3)) (v := .str "malformed") rfl ?_
    kct_strs
    refine ⟨Nat.le_of_ble_eq_true rfl, fun p4 H4 hp4 s4 e4 => ?_⟩
    kct_strs
    have S4 := s1.trans (s2.trans (s3.trans s4))
    refine made_bad o_made (.int 1) (r.to S4) rfl tw.1 tw.2.2 (by rw [tw.2.1]; rfl) e4 fun p5 H5 s5 e5 => ?_
    kct_strs
    refine ixw_st (.inl (.inl e5)) (v := .str "malformed") rfl ?_
    kct_strs
    refine ⟨Nat.le_of_ble_eq_true rfl, fun p6 H6 hp6 s6 e6 => ?_⟩
    have S6 := S4.trans (s5.trans s6)
    have q1 : Rp K H6 (.ref p1) (.tup [.str "malformed", .str "malformed"]) := .tupOf ((s2.trans (s3.trans (s4.trans (s5.trans s6)))) _ _ e1) (.cons (.str _) (.cons (.str _) .nil))
    have q2 : Rp K H6 (.ref p6) (.tup [.str "malformed", .str "malformed"]) := .tupOf e6 (.cons (.str _) (.cons (.str _) .nil))
    refine opw_ned hr q1 q2 (by decide +kernel) (by decide +kernel) (by decide +kernel) (by decide +kernel) fun bb hbb => ?_
    kct_strs
    rw [hbb.mpr rfl]
    refine ifnb (fun e => by cases e) (fun _ => ?_)
    kct_strs
    exact q _ S6
  · kct_strs
    rw [if_neg Bool.false_ne_true]
    kct_strs
    exact q _ (Same.refl _)
theorem law_6 {v : V} {H : Hp} {vs cx cy : Addr} {wd t as td low : Option V} {a b c d k : Int} {up : V} (T0 : Fx (LX P w K mg base f cdv A outer s H0 E0) fD fM Fa M R C) {D0 : Ends} (hb : b ≠ 0 ∧ b.natAbs ≤ 30) (rx : Rt C H cx (rp a b) (rq a b)) (q : ∀ H', D0.rt (.bl true) H') :
    QB (LX P w K mg base f cdv A outer s H0 E0) ((defBody (top 22)).drop 17) D0 [some v, some (.ref vs), wd, t, some (.int a), some (.int b), some (.int c), some (.int d), some (.int k), some (.ref cx), some (.ref cy), some up, as, none, none, none, td, none, low, none, none] H := by
  have T0' := T0
  obtain ⟨hN, nd, hr, tk, n_all, n_range, n_int, n_str, n_abs, n_isinstance, g_did, g_made, g_ratio, o_did, o_made, c_law_state, c_law_take, c_law_is_whole, c_law_says, c_law_same, c_law_common, c_law_sign_at, c_law_fits, c_law_result, m_add, m_sub, m_mul, m_neg, m_size, m_times, m_eq, m_less, m_sign, m_is_zero, m_is_whole, m_floor, m_str, mkR, mkD, T⟩ := T0
  obtain ⟨fx1, fx2, fx3, fx4⟩ := rat_facts a b hb.1
  change QB _ ((Stmt.For _ _ lb6 [] _) :: (defBody (top 22)).drop 18) _ _ _
  kct_strs
  one_item
  kct_strs
  refine ⟨Nat.le_of_ble_eq_true rfl, fun p1 H1 hp1 s1 e1 => ?_⟩
  kct_strs
  refine ⟨Nat.le_of_ble_eq_true rfl, fun p2 H2 hp2 s2 e2 => ?_⟩
  have r1 : Rp K H2 (.ref p1) (.tup [.int 1]) := .tupOf (s2 _ _ e1) (.cons (.int _) .nil)
  refine ⟨[.non, .bl true, .str "1", .tup [.int 1], .int 5], .tupOf e2 (.cons .non (.cons (.bl _) (.cons (.str _) (.cons r1 (.cons (.int _) .nil))))),
    fun k' σ H' => Same H2 H' ∧ ∃ o0 : Option V, σ = [some v, some (.ref vs), wd, t, some (.int a), some (.int b), some (.int c), some (.int d), some (.int k), some (.ref cx), some (.ref cy), some up, as, none, none, none, td, none, low, o0, none], ⟨Same.refl _, _, rfl⟩, fun k σ H' h => h.1, ?_, ?_⟩
  · rintro k1 du u σ1 H3 hdk ⟨s3, o0, rfl⟩ r
    have hm := List.mem_of_getElem? hdk
    simp only [List.mem_cons, List.not_mem_nil, or_false] at hm
    have hx : ∃ n, du.ty = some n ∧ n ≠ "list" := by
      rcases hm with rfl | rfl | rfl | rfl | rfl <;> exact ⟨_, rfl, by decide⟩
    have hy : du = .int 5 ∨ ((du = .non ∨ du = .bl true ∨ du = .str "1" ∨ du = .tup [.int 1])) := by
      rcases hm with rfl | rfl | rfl | rfl | rfl <;> simp
    obtain ⟨n, hn1, hn2⟩ := hx
    show QG _ _ _ _ _ _
    kct_strs
    refine law_b1 T0' (by omega) (rx.to (s1.trans (s2.trans s3))) r hn1 hn2 fun H4 s4 => ?_
    exact law_b2 T0' (r.to s4) hy fun H5 s5 => ⟨s3.trans (s4.trans s5), _, rfl⟩
  · rintro σ1 H3 ⟨s3, o0, rfl⟩
    change QB _ (_ :: []) _ _ _
    kct_strs
    refine ⟨Nat.le_of_ble_eq_true rfl, fun p4 H4 hp4 s4 e4 => ?_⟩
    kct_strs
    refine made_zero o_made e4 fun p5 H5 s5 e5 => ?_
    kct_strs
    refine ⟨Nat.le_of_ble_eq_true rfl, fun p6 H6 hp6 s6 e6 => ?_⟩
    have q1 : Rp K H6 (.ref p5) (.tup [.str "refused", .str "zero"]) := .tupOf (s6 _ _ e5) (.cons (.str _) (.cons (.str _) .nil))
    have q2 : Rp K H6 (.ref p6) (.tup [.str "refused", .str "zero"]) := .tupOf e6 (.cons (.str _) (.cons (.str _) .nil))
    refine opw_eqd hr q1 q2 (by decide +kernel) (by decide +kernel) (by decide +kernel) (by decide +kernel) fun bb hbb => ?_
    rw [hbb.mpr rfl]
    exact q _
end
theorem exm_any {K : PySem.W.Frag} {S T : Addr} {b : Bool} (h1 : PySem.W.subIn K (.ref S) (.type "BaseException") = some true) (h2 : PySem.W.isClsIn K S = true) (h3 : PySem.W.typeIn K (.ref S) = some (.type "type")) (h4 : PySem.W.subIn K (.ref T) (.ref S) = some b) :
    PySem.W.exmOne K (.ref T) (.ref S) = some b := by
  unfold PySem.W.exmOne
  have h2' : (PySem.W.clsIn K S).isSome = true := h2
  simp [h1]
  unfold PySem.W.kitCls
  simp [h2', h3, h4]
theorem kit_ty {K : PySem.W.Frag} {S : Addr} {n : String} {b : Bool} (h2 : PySem.W.isClsIn K S = true) (h3 : PySem.W.typeIn K (.ref S) = some (.type "type")) (h4 : PySem.W.subIn K (.type n) (.ref S) = some b) :
    PySem.W.kitOne K (.type n) (.ref S) = some b := by
  unfold PySem.W.kitOne
  have h2' : (PySem.W.clsIn K S).isSome = true := h2
  rw [if_neg (by simp)]
  unfold PySem.W.kitCls
  simp [h2', h3, h4]
theorem kit_me {K : PySem.W.Frag} {S : Addr} : PySem.W.kitOne K (.ref S) (.ref S) = some true := by
  unfold PySem.W.kitOne
  rw [if_pos (by simp)]
theorem rp_ints {K : PySem.W.Frag} {H : Hp} {a : Addr} {ns : List Int} (h : SqL K H a (ns.map V.int)) : Rp K H (.ref a) (.lst (ns.map .int)) := .lst h (RpAll.ints ns)
section
variable {P : Program} {w : World} {K : PySem.W.Frag} {mg : Str → Option Value} {base : Heap}
def spLaw (K : PySem.W.Frag) : Sp := fun vs H Q _ => ∃ (a : Addr) (ns : List Int), vs = [.ref a] ∧ SqL K H a (ns.map V.int) ∧ ns.length ≤ 63 ∧ ∀ H', Q (.bl true) H'
theorem ok_law {f fD fM Fa M R C : Addr} {fd : FuncData} (F : Fun K "law" "law" (top 22) f fd)
    (n_all : mg "all" = none)
    (n_range : mg "range" = none)
    (n_int : mg "int" = none)
    (n_str : mg "str" = none)
    (n_abs : mg "abs" = none)
    (n_isinstance : mg "isinstance" = none)
    (g_did : mg "_law_did" = some (.ref fD)) (g_made : mg "_law_made" = some (.ref fM)) (g_ratio : mg "Ratio" = some (.ref C))
    (o_did : ∃ fd ps, FnOk P w K mg base (L2.CX P w) 8 fD fd ps (spDid K M R C) ∧ PySem.W.keepIn K (.ref fD) = true ∧ Binds K fd ps [])
    (o_made : ∃ fd ps, FnOk P w K mg base (L2.CX P w) 8 fM fd ps (spMade K M R C) ∧ PySem.W.keepIn K (.ref fM) = true ∧ Binds K fd ps [])
    (c_law_state : Cal P w K mg base 1 "_law_state" (spState K) [])
    (c_law_take : Cal P w K mg base 1 "_law_take" (spTake) [])
    (c_law_is_whole : Cal P w K mg base 1 "_law_is_whole" (spWhole K) [])
    (c_law_says : Cal P w K mg base 1 "_law_says" (spSays) [])
    (c_law_same : Cal P w K mg base 2 "_law_same" (spSame) [])
    (c_law_common : Cal P w K mg base 1 "_law_common" (spCommon) [])
    (c_law_sign_at : Cal P w K mg base 1 "_law_sign_at" (spSgn) [])
    (c_law_fits : Cal P w K mg base 2 "_law_fits" (spFits C) [])
    (c_law_result : Cal P w K mg base 9 "_law_result" (spRes P w K mg base M R) [])
    (m_add : MetX P w K mg base (L2.CX P w) 5 C "__add__" (spOp K M R C (fun p q p' q' => p * q' + p' * q) (fun p q p' q' => q * q')))
    (m_sub : MetX P w K mg base (L2.CX P w) 5 C "__sub__" (spOp K M R C (fun p q p' q' => p * q' - p' * q) (fun p q p' q' => q * q')))
    (m_mul : MetX P w K mg base (L2.CX P w) 5 C "__mul__" (spOp K M R C (fun p q p' q' => p * p') (fun p q p' q' => q * q')))
    (m_neg : MetX P w K mg base (L2.CX P w) 5 C "__neg__" (spUn C fun p => -p))
    (m_size : MetX P w K mg base (L2.CX P w) 5 C "size" (spUn C fun p => if p < 0 then -p else p))
    (m_times : MetX P w K mg base (L2.CX P w) 5 C "times" (spTimes C))
    (m_eq : MetX P w K mg base (CX0) 1 C "__eq__" (spEqR K C))
    (m_less : MetX P w K mg base (L2.CX P w) 2 C "less" (spLess K M C))
    (m_sign : MetX P w K mg base (CX0) 1 C "sign" (spAns C fun p q => .int ((if 0 < p then 1 else if p < 0 then -1 else 0))))
    (m_is_zero : MetX P w K mg base (CX0) 1 C "is_zero" (spAns C fun p q => .bl (decide (p = 0))))
    (m_is_whole : MetX P w K mg base (CX0) 1 C "is_whole" (spAns C fun p q => .bl (decide (q = 1))))
    (m_floor : MetX P w K mg base (CX0) 1 C "floor" (spAns C fun p q => .int (p / q)))
    (m_str : MetX P w K mg base (CX0) 1 C "__str__" (spAns C fun p q => .str (told p q)))
    (mkR : MakX P w K mg base (L2.CX P w) 3 "Ratio" C (spInit (K := K) M R C)) (mkD : MakD P w K mg base (L2.CX P w) 3 "Ratio" C (spInit (K := K) M R C) [.int 1]) (T4 : Cls4 K mg Fa M R C)
    : FnOk P w K mg base CX0 11 f fd ["script"] (spLaw K) := by
  refine okS F scL (fun vs H Q E ⟨_, _, e, _⟩ => by rw [e]; rfl) ?_
  rintro cdv A outer s H _ Q E hr ⟨a, ns, rfl, hS, hl, q⟩ hN nd
  have T : Fx (LX P w K mg base f cdv A outer s H E) fD fM Fa M R C := ⟨hN, nd, hr, takes0, n_all, n_range, n_int, n_str, n_abs, n_isinstance, g_did, g_made, g_ratio, o_did, o_made, c_law_state, c_law_take, c_law_is_whole, c_law_says, c_law_same, c_law_common, c_law_sign_at, c_law_fits, c_law_result, m_add, m_sub, m_mul, m_neg, m_size, m_times, m_eq, m_less, m_sign, m_is_zero, m_is_whole, m_floor, m_str, mkR, mkD, T4⟩
  refine law_1 T (rp_ints hS) hl fun vs wd t a b c d k cx cy H1 st ha hb hc hd hk rx ry => ?_
  refine law_2 T ha hb hc hd hk rx ry fun as H2 s2 => ?_
  refine law_3 T hb hc hd (rx.to s2) (ry.to s2) fun td H3 s3 => ?_
  have S3 := s2.trans s3
  refine law_4 T ha hb hc hd (rx.to S3) (ry.to S3) fun H4 s4 => ?_
  have S4 := S3.trans s4
  refine law_5 T ha hb hc hd (rx.to S4) (ry.to S4) rfl fun low => ?_
  exact law_6 T hb (rx.to S4) fun H5 => q H5
end
section
theorem all_mk {l : PySem.W.OpenLaw} {w : World} {K : PySem.W.Frag} {h : Heap} {mg : Str → Option Value} (X : K.In h) (G : h.Ns mainGlobals mg)
    {C Fa M R T : Addr} {f5 : Addr} {od5 an5 : Option Addr} {sl5 : Array (Option Value)} {oc5 kV5 dc5 pm5 cd5 ct5 : Value} {f6 : Addr} {od6 an6 : Option Addr} {sl6 : Array (Option Value)} {oc6 kV6 dc6 pm6 cd6 ct6 : Value} {f9 : Addr} {od9 an9 : Option Addr} {sl9 : Array (Option Value)} {oc9 kV9 dc9 pm9 cd9 ct9 : Value} {f11 : Addr} {od11 an11 : Option Addr} {sl11 : Array (Option Value)} {oc11 kV11 dc11 pm11 cd11 ct11 : Value} {f12 : Addr} {od12 an12 : Option Addr} {sl12 : Array (Option Value)} {oc12 kV12 dc12 pm12 cd12 ct12 : Value} {f13 : Addr} {od13 an13 : Option Addr} {sl13 : Array (Option Value)} {oc13 kV13 dc13 pm13 cd13 ct13 : Value} {f14 : Addr} {od14 an14 : Option Addr} {sl14 : Array (Option Value)} {oc14 kV14 dc14 pm14 cd14 ct14 : Value} {f15 : Addr} {od15 an15 : Option Addr} {sl15 : Array (Option Value)} {oc15 kV15 dc15 pm15 cd15 ct15 : Value} {f16 : Addr} {od16 an16 : Option Addr} {sl16 : Array (Option Value)} {oc16 kV16 dc16 pm16 cd16 ct16 : Value} {f17 : Addr} {od17 an17 : Option Addr} {sl17 : Array (Option Value)} {oc17 kV17 dc17 pm17 cd17 ct17 : Value} {f18 : Addr} {od18 an18 : Option Addr} {sl18 : Array (Option Value)} {oc18 kV18 dc18 pm18 cd18 ct18 : Value} {f19 : Addr} {od19 an19 : Option Addr} {sl19 : Array (Option Value)} {oc19 kV19 dc19 pm19 cd19 ct19 : Value} {f20 : Addr} {od20 an20 : Option Addr} {sl20 : Array (Option Value)} {oc20 kV20 dc20 pm20 cd20 ct20 : Value} {f21 : Addr} {od21 an21 : Option Addr} {sl21 : Array (Option Value)} {oc21 kV21 dc21 pm21 cd21 ct21 : Value} {f22 : Addr} {od22 an22 : Option Addr} {sl22 : Array (Option Value)} {oc22 kV22 dc22 pm22 cd22 ct22 : Value} {fm1 : Addr} {odm1 anm1 : Option Addr} {slm1 : Array (Option Value)} {ocm1 kVm1 dcm1 pmm1 cdm1 ctm1 : Value} {fm2 : Addr} {odm2 anm2 : Option Addr} {slm2 : Array (Option Value)} {ocm2 kVm2 dcm2 pmm2 cdm2 ctm2 : Value} {fm3 : Addr} {odm3 anm3 : Option Addr} {slm3 : Array (Option Value)} {ocm3 kVm3 dcm3 pmm3 cdm3 ctm3 : Value} {fm4 : Addr} {odm4 anm4 : Option Addr} {slm4 : Array (Option Value)} {ocm4 kVm4 dcm4 pmm4 cdm4 ctm4 : Value} {fm5 : Addr} {odm5 anm5 : Option Addr} {slm5 : Array (Option Value)} {ocm5 kVm5 dcm5 pmm5 cdm5 ctm5 : Value} {fm6 : Addr} {odm6 anm6 : Option Addr} {slm6 : Array (Option Value)} {ocm6 kVm6 dcm6 pmm6 cdm6 ctm6 : Value} {fm7 : Addr} {odm7 anm7 : Option Addr} {slm7 : Array (Option Value)} {ocm7 kVm7 dcm7 pmm7 cdm7 ctm7 : Value} {fm8 : Addr} {odm8 anm8 : Option Addr} {slm8 : Array (Option Value)} {ocm8 kVm8 dcm8 pmm8 cdm8 ctm8 : Value} {fm9 : Addr} {odm9 anm9 : Option Addr} {slm9 : Array (Option Value)} {ocm9 kVm9 dcm9 pmm9 cdm9 ctm9 : Value} {fm10 : Addr} {odm10 anm10 : Option Addr} {slm10 : Array (Option Value)} {ocm10 kVm10 dcm10 pmm10 cdm10 ctm10 : Value} {fm11 : Addr} {odm11 anm11 : Option Addr} {slm11 : Array (Option Value)} {ocm11 kVm11 dcm11 pmm11 cdm11 ctm11 : Value} {fm12 : Addr} {odm12 anm12 : Option Addr} {slm12 : Array (Option Value)} {ocm12 kVm12 dcm12 pmm12 cdm12 ctm12 : Value} {fm13 : Addr} {odm13 anm13 : Option Addr} {slm13 : Array (Option Value)} {ocm13 kVm13 dcm13 pmm13 cdm13 ctm13 : Value} {fm14 : Addr} {odm14 anm14 : Option Addr} {slm14 : Array (Option Value)} {ocm14 kVm14 dcm14 pmm14 cdm14 ctm14 : Value} {fRI : Addr} {odRI anRI : Option Addr} {slRI : Array (Option Value)} {ocRI kVRI dcRI pmRI cdRI ctRI : Value} {fI : Addr} {odI anI : Option Addr} {slI : Array (Option Value)} {ocI kVI dcI pmI cdI ctI : Value} {oT : Obj} {itT : Value} {nT : Nat} {nmR qR : Str} {NR : Addr} {bsR bmR : List Value} {snR : List Str} {subR : List Value} {abR : Bool} {colR : Option Bool} {ddR : Option Addr} {k0R k1R k2R k3R k5R : Option Value}
    {fa : Addr} (hfa : mg "law" = some (.ref fa))
    (gC : PySem.W.nsIn K mainGlobals "Ratio" = some (some (.ref C)))
    (gF : PySem.W.nsIn K mainGlobals "Fault" = some (some (.ref Fa)))
    (gM : PySem.W.nsIn K mainGlobals "Malformed" = some (some (.ref M)))
    (gR : PySem.W.nsIn K mainGlobals "Refused" = some (some (.ref R)))
    (a5 : PySem.W.nsIn K mainGlobals "is_integer" = some (some (.ref f5)))
    (l5 : K.lookup f5 = some ⟨oc5, od5, .func (PySem.W.fnOf "is_integer" "is_integer" (defArgs (top 5)) (defBody (top 5)) (defScope (top 5)) .none kV5 dc5 pm5 an5 cd5 ct5), sl5⟩)
    (c5 : PySem.W.codeIn K cd5 "is_integer" = true)
    (k5 : PySem.W.keepIn K (.ref f5) = true)
    (a6 : PySem.W.nsIn K mainGlobals "common" = some (some (.ref f6)))
    (l6 : K.lookup f6 = some ⟨oc6, od6, .func (PySem.W.fnOf "common" "common" (defArgs (top 6)) (defBody (top 6)) (defScope (top 6)) .none kV6 dc6 pm6 an6 cd6 ct6), sl6⟩)
    (c6 : PySem.W.codeIn K cd6 "common" = true)
    (k6 : PySem.W.keepIn K (.ref f6) = true)
    (a9 : PySem.W.nsIn K mainGlobals "check_ratio" = some (some (.ref f9)))
    (l9 : K.lookup f9 = some ⟨oc9, od9, .func (PySem.W.fnOf "check_ratio" "check_ratio" (defArgs (top 9)) (defBody (top 9)) (defScope (top 9)) .none kV9 dc9 pm9 an9 cd9 ct9), sl9⟩)
    (c9 : PySem.W.codeIn K cd9 "check_ratio" = true)
    (k9 : PySem.W.keepIn K (.ref f9) = true)
    (a11 : PySem.W.nsIn K mainGlobals "_law_state" = some (some (.ref f11)))
    (l11 : K.lookup f11 = some ⟨oc11, od11, .func (PySem.W.fnOf "_law_state" "_law_state" (defArgs (top 11)) (defBody (top 11)) (defScope (top 11)) .none kV11 dc11 pm11 an11 cd11 ct11), sl11⟩)
    (c11 : PySem.W.codeIn K cd11 "_law_state" = true)
    (k11 : PySem.W.keepIn K (.ref f11) = true)
    (a12 : PySem.W.nsIn K mainGlobals "_law_take" = some (some (.ref f12)))
    (l12 : K.lookup f12 = some ⟨oc12, od12, .func (PySem.W.fnOf "_law_take" "_law_take" (defArgs (top 12)) (defBody (top 12)) (defScope (top 12)) .none kV12 dc12 pm12 an12 cd12 ct12), sl12⟩)
    (c12 : PySem.W.codeIn K cd12 "_law_take" = true)
    (k12 : PySem.W.keepIn K (.ref f12) = true)
    (a13 : PySem.W.nsIn K mainGlobals "_law_says" = some (some (.ref f13)))
    (l13 : K.lookup f13 = some ⟨oc13, od13, .func (PySem.W.fnOf "_law_says" "_law_says" (defArgs (top 13)) (defBody (top 13)) (defScope (top 13)) .none kV13 dc13 pm13 an13 cd13 ct13), sl13⟩)
    (c13 : PySem.W.codeIn K cd13 "_law_says" = true)
    (k13 : PySem.W.keepIn K (.ref f13) = true)
    (a14 : PySem.W.nsIn K mainGlobals "_law_is_whole" = some (some (.ref f14)))
    (l14 : K.lookup f14 = some ⟨oc14, od14, .func (PySem.W.fnOf "_law_is_whole" "_law_is_whole" (defArgs (top 14)) (defBody (top 14)) (defScope (top 14)) .none kV14 dc14 pm14 an14 cd14 ct14), sl14⟩)
    (c14 : PySem.W.codeIn K cd14 "_law_is_whole" = true)
    (k14 : PySem.W.keepIn K (.ref f14) = true)
    (a15 : PySem.W.nsIn K mainGlobals "_law_same" = some (some (.ref f15)))
    (l15 : K.lookup f15 = some ⟨oc15, od15, .func (PySem.W.fnOf "_law_same" "_law_same" (defArgs (top 15)) (defBody (top 15)) (defScope (top 15)) .none kV15 dc15 pm15 an15 cd15 ct15), sl15⟩)
    (c15 : PySem.W.codeIn K cd15 "_law_same" = true)
    (k15 : PySem.W.keepIn K (.ref f15) = true)
    (a16 : PySem.W.nsIn K mainGlobals "_law_common" = some (some (.ref f16)))
    (l16 : K.lookup f16 = some ⟨oc16, od16, .func (PySem.W.fnOf "_law_common" "_law_common" (defArgs (top 16)) (defBody (top 16)) (defScope (top 16)) .none kV16 dc16 pm16 an16 cd16 ct16), sl16⟩)
    (c16 : PySem.W.codeIn K cd16 "_law_common" = true)
    (k16 : PySem.W.keepIn K (.ref f16) = true)
    (a17 : PySem.W.nsIn K mainGlobals "_law_result" = some (some (.ref f17)))
    (l17 : K.lookup f17 = some ⟨oc17, od17, .func (PySem.W.fnOf "_law_result" "_law_result" (defArgs (top 17)) (defBody (top 17)) (defScope (top 17)) .none kV17 dc17 pm17 an17 cd17 ct17), sl17⟩)
    (c17 : PySem.W.codeIn K cd17 "_law_result" = true)
    (k17 : PySem.W.keepIn K (.ref f17) = true)
    (a18 : PySem.W.nsIn K mainGlobals "_law_sign_at" = some (some (.ref f18)))
    (l18 : K.lookup f18 = some ⟨oc18, od18, .func (PySem.W.fnOf "_law_sign_at" "_law_sign_at" (defArgs (top 18)) (defBody (top 18)) (defScope (top 18)) .none kV18 dc18 pm18 an18 cd18 ct18), sl18⟩)
    (c18 : PySem.W.codeIn K cd18 "_law_sign_at" = true)
    (k18 : PySem.W.keepIn K (.ref f18) = true)
    (a19 : PySem.W.nsIn K mainGlobals "_law_made" = some (some (.ref f19)))
    (l19 : K.lookup f19 = some ⟨oc19, od19, .func (PySem.W.fnOf "_law_made" "_law_made" (defArgs (top 19)) (defBody (top 19)) (defScope (top 19)) .none kV19 dc19 pm19 an19 cd19 ct19), sl19⟩)
    (c19 : PySem.W.codeIn K cd19 "_law_made" = true)
    (k19 : PySem.W.keepIn K (.ref f19) = true)
    (a20 : PySem.W.nsIn K mainGlobals "_law_did" = some (some (.ref f20)))
    (l20 : K.lookup f20 = some ⟨oc20, od20, .func (PySem.W.fnOf "_law_did" "_law_did" (defArgs (top 20)) (defBody (top 20)) (defScope (top 20)) .none kV20 dc20 pm20 an20 cd20 ct20), sl20⟩)
    (c20 : PySem.W.codeIn K cd20 "_law_did" = true)
    (k20 : PySem.W.keepIn K (.ref f20) = true)
    (a21 : PySem.W.nsIn K mainGlobals "_law_fits" = some (some (.ref f21)))
    (l21 : K.lookup f21 = some ⟨oc21, od21, .func (PySem.W.fnOf "_law_fits" "_law_fits" (defArgs (top 21)) (defBody (top 21)) (defScope (top 21)) .none kV21 dc21 pm21 an21 cd21 ct21), sl21⟩)
    (c21 : PySem.W.codeIn K cd21 "_law_fits" = true)
    (k21 : PySem.W.keepIn K (.ref f21) = true)
    (a22 : PySem.W.nsIn K mainGlobals "law" = some (some (.ref f22)))
    (l22 : K.lookup f22 = some ⟨oc22, od22, .func (PySem.W.fnOf "law" "law" (defArgs (top 22)) (defBody (top 22)) (defScope (top 22)) .none kV22 dc22 pm22 an22 cd22 ct22), sl22⟩)
    (c22 : PySem.W.codeIn K cd22 "law" = true)
    (k22 : PySem.W.keepIn K (.ref f22) = true)
    (am1 : PySem.W.findIn K (.ref C) "__add__" = some (some (.ref fm1)))
    (lm1 : K.lookup fm1 = some ⟨ocm1, odm1, .func (PySem.W.fnOf "__add__" "Ratio.__add__" (defArgs (inC 8 1)) (defBody (inC 8 1)) (defScope (inC 8 1)) .none kVm1 dcm1 pmm1 anm1 cdm1 ctm1), slm1⟩)
    (cm1 : PySem.W.codeIn K cdm1 "Ratio.__add__" = true)
    (km1 : PySem.W.keepIn K (.ref fm1) = true)
    (im1 : PySem.W.isFn K (.ref fm1) = true)
    (am2 : PySem.W.findIn K (.ref C) "__sub__" = some (some (.ref fm2)))
    (lm2 : K.lookup fm2 = some ⟨ocm2, odm2, .func (PySem.W.fnOf "__sub__" "Ratio.__sub__" (defArgs (inC 8 2)) (defBody (inC 8 2)) (defScope (inC 8 2)) .none kVm2 dcm2 pmm2 anm2 cdm2 ctm2), slm2⟩)
    (cm2 : PySem.W.codeIn K cdm2 "Ratio.__sub__" = true)
    (km2 : PySem.W.keepIn K (.ref fm2) = true)
    (im2 : PySem.W.isFn K (.ref fm2) = true)
    (am3 : PySem.W.findIn K (.ref C) "__mul__" = some (some (.ref fm3)))
    (lm3 : K.lookup fm3 = some ⟨ocm3, odm3, .func (PySem.W.fnOf "__mul__" "Ratio.__mul__" (defArgs (inC 8 3)) (defBody (inC 8 3)) (defScope (inC 8 3)) .none kVm3 dcm3 pmm3 anm3 cdm3 ctm3), slm3⟩)
    (cm3 : PySem.W.codeIn K cdm3 "Ratio.__mul__" = true)
    (km3 : PySem.W.keepIn K (.ref fm3) = true)
    (im3 : PySem.W.isFn K (.ref fm3) = true)
    (am4 : PySem.W.findIn K (.ref C) "__neg__" = some (some (.ref fm4)))
    (lm4 : K.lookup fm4 = some ⟨ocm4, odm4, .func (PySem.W.fnOf "__neg__" "Ratio.__neg__" (defArgs (inC 8 4)) (defBody (inC 8 4)) (defScope (inC 8 4)) .none kVm4 dcm4 pmm4 anm4 cdm4 ctm4), slm4⟩)
    (cm4 : PySem.W.codeIn K cdm4 "Ratio.__neg__" = true)
    (km4 : PySem.W.keepIn K (.ref fm4) = true)
    (im4 : PySem.W.isFn K (.ref fm4) = true)
    (am5 : PySem.W.findIn K (.ref C) "__eq__" = some (some (.ref fm5)))
    (lm5 : K.lookup fm5 = some ⟨ocm5, odm5, .func (PySem.W.fnOf "__eq__" "Ratio.__eq__" (defArgs (inC 8 5)) (defBody (inC 8 5)) (defScope (inC 8 5)) .none kVm5 dcm5 pmm5 anm5 cdm5 ctm5), slm5⟩)
    (cm5 : PySem.W.codeIn K cdm5 "Ratio.__eq__" = true)
    (km5 : PySem.W.keepIn K (.ref fm5) = true)
    (im5 : PySem.W.isFn K (.ref fm5) = true)
    (am6 : PySem.W.findIn K (.ref C) "less" = some (some (.ref fm6)))
    (lm6 : K.lookup fm6 = some ⟨ocm6, odm6, .func (PySem.W.fnOf "less" "Ratio.less" (defArgs (inC 8 6)) (defBody (inC 8 6)) (defScope (inC 8 6)) .none kVm6 dcm6 pmm6 anm6 cdm6 ctm6), slm6⟩)
    (cm6 : PySem.W.codeIn K cdm6 "Ratio.less" = true)
    (km6 : PySem.W.keepIn K (.ref fm6) = true)
    (im6 : PySem.W.isFn K (.ref fm6) = true)
    (am7 : PySem.W.findIn K (.ref C) "__str__" = some (some (.ref fm7)))
    (lm7 : K.lookup fm7 = some ⟨ocm7, odm7, .func (PySem.W.fnOf "__str__" "Ratio.__str__" (defArgs (inC 8 7)) (defBody (inC 8 7)) (defScope (inC 8 7)) .none kVm7 dcm7 pmm7 anm7 cdm7 ctm7), slm7⟩)
    (cm7 : PySem.W.codeIn K cdm7 "Ratio.__str__" = true)
    (km7 : PySem.W.keepIn K (.ref fm7) = true)
    (im7 : PySem.W.isFn K (.ref fm7) = true)
    (am8 : PySem.W.findIn K (.ref C) "over" = some (some (.ref fm8)))
    (lm8 : K.lookup fm8 = some ⟨ocm8, odm8, .func (PySem.W.fnOf "over" "Ratio.over" (defArgs (inC 8 8)) (defBody (inC 8 8)) (defScope (inC 8 8)) .none kVm8 dcm8 pmm8 anm8 cdm8 ctm8), slm8⟩)
    (cm8 : PySem.W.codeIn K cdm8 "Ratio.over" = true)
    (km8 : PySem.W.keepIn K (.ref fm8) = true)
    (im8 : PySem.W.isFn K (.ref fm8) = true)
    (am9 : PySem.W.findIn K (.ref C) "times" = some (some (.ref fm9)))
    (lm9 : K.lookup fm9 = some ⟨ocm9, odm9, .func (PySem.W.fnOf "times" "Ratio.times" (defArgs (inC 8 9)) (defBody (inC 8 9)) (defScope (inC 8 9)) .none kVm9 dcm9 pmm9 anm9 cdm9 ctm9), slm9⟩)
    (cm9 : PySem.W.codeIn K cdm9 "Ratio.times" = true)
    (km9 : PySem.W.keepIn K (.ref fm9) = true)
    (im9 : PySem.W.isFn K (.ref fm9) = true)
    (am10 : PySem.W.findIn K (.ref C) "sign" = some (some (.ref fm10)))
    (lm10 : K.lookup fm10 = some ⟨ocm10, odm10, .func (PySem.W.fnOf "sign" "Ratio.sign" (defArgs (inC 8 10)) (defBody (inC 8 10)) (defScope (inC 8 10)) .none kVm10 dcm10 pmm10 anm10 cdm10 ctm10), slm10⟩)
    (cm10 : PySem.W.codeIn K cdm10 "Ratio.sign" = true)
    (km10 : PySem.W.keepIn K (.ref fm10) = true)
    (im10 : PySem.W.isFn K (.ref fm10) = true)
    (am11 : PySem.W.findIn K (.ref C) "is_zero" = some (some (.ref fm11)))
    (lm11 : K.lookup fm11 = some ⟨ocm11, odm11, .func (PySem.W.fnOf "is_zero" "Ratio.is_zero" (defArgs (inC 8 11)) (defBody (inC 8 11)) (defScope (inC 8 11)) .none kVm11 dcm11 pmm11 anm11 cdm11 ctm11), slm11⟩)
    (cm11 : PySem.W.codeIn K cdm11 "Ratio.is_zero" = true)
    (km11 : PySem.W.keepIn K (.ref fm11) = true)
    (im11 : PySem.W.isFn K (.ref fm11) = true)
    (am12 : PySem.W.findIn K (.ref C) "is_whole" = some (some (.ref fm12)))
    (lm12 : K.lookup fm12 = some ⟨ocm12, odm12, .func (PySem.W.fnOf "is_whole" "Ratio.is_whole" (defArgs (inC 8 12)) (defBody (inC 8 12)) (defScope (inC 8 12)) .none kVm12 dcm12 pmm12 anm12 cdm12 ctm12), slm12⟩)
    (cm12 : PySem.W.codeIn K cdm12 "Ratio.is_whole" = true)
    (km12 : PySem.W.keepIn K (.ref fm12) = true)
    (im12 : PySem.W.isFn K (.ref fm12) = true)
    (am13 : PySem.W.findIn K (.ref C) "floor" = some (some (.ref fm13)))
    (lm13 : K.lookup fm13 = some ⟨ocm13, odm13, .func (PySem.W.fnOf "floor" "Ratio.floor" (defArgs (inC 8 13)) (defBody (inC 8 13)) (defScope (inC 8 13)) .none kVm13 dcm13 pmm13 anm13 cdm13 ctm13), slm13⟩)
    (cm13 : PySem.W.codeIn K cdm13 "Ratio.floor" = true)
    (km13 : PySem.W.keepIn K (.ref fm13) = true)
    (im13 : PySem.W.isFn K (.ref fm13) = true)
    (am14 : PySem.W.findIn K (.ref C) "size" = some (some (.ref fm14)))
    (lm14 : K.lookup fm14 = some ⟨ocm14, odm14, .func (PySem.W.fnOf "size" "Ratio.size" (defArgs (inC 8 14)) (defBody (inC 8 14)) (defScope (inC 8 14)) .none kVm14 dcm14 pmm14 anm14 cdm14 ctm14), slm14⟩)
    (cm14 : PySem.W.codeIn K cdm14 "Ratio.size" = true)
    (km14 : PySem.W.keepIn K (.ref fm14) = true)
    (im14 : PySem.W.isFn K (.ref fm14) = true)
    (aRI : PySem.W.findIn K (.ref R) "__init__" = some (some (.ref fRI)))
    (lRI : K.lookup fRI = some ⟨ocRI, odRI, .func (PySem.W.fnOf "__init__" "Refused.__init__" (defArgs (inC 3 0)) (defBody (inC 3 0)) (defScope (inC 3 0)) .none kVRI dcRI pmRI anRI cdRI ctRI), slRI⟩)
    (cRI : PySem.W.codeIn K cdRI "Refused.__init__" = true)
    (kRI : PySem.W.keepIn K (.ref fRI) = true)
    (tfR : PySem.W.typeIn K (.ref fRI) = some (.type "function"))
    (aI : PySem.W.findIn K (.ref C) "__init__" = some (some (.ref fI)))
    (lI : K.lookup fI = some ⟨ocI, odI, .func (PySem.W.fnOf "__init__" "Ratio.__init__" (defArgs (inC 8 0)) (defBody (inC 8 0)) (defScope (inC 8 0)) (.ref T) kVI dcI pmI anI cdI ctI), slI⟩)
    (cI : PySem.W.codeIn K cdI "Ratio.__init__" = true)
    (kI : PySem.W.keepIn K (.ref fI) = true)
    (iI : PySem.W.isFn K (.ref fI) = true)
    (lT : K.lookup T = some oT)
    (oTd : oT.data = .seq [itT].toArray nT)
    (rT : RelV (.int 1) itT)
    (sF : PySem.W.specialIn K (.ref Fa) "__getattribute__" = some (some (.builtin "type.__getattribute__")))
    (tF : PySem.W.typeIn K (.ref Fa) = some (.type "type"))
    (rF : PySem.W.readsIn K Fa (.type "type") = true)
    (vF : PySem.W.findCls K (.ref Fa) (.type "type") "__init__" = some (.val (.builtin "ValueError.__init__")))
    (xM : PySem.W.excIn K M [.type "ValueError", .type "Exception", .type "BaseException", .type "object"] "ValueError.__new__" = true)
    (kM : PySem.W.keepIn K (.ref M) = true)
    (bM : PySem.W.subIn K (.ref M) (.type "BaseException") = some true)
    (tM : PySem.W.typeIn K (.ref M) = some (.type "type"))
    (lR : K.lookup R = some (excClassObj nmR qR R NR bsR bmR true snR subR abR colR ddR k0R k1R k2R k3R k5R "ValueError.__new__"))
    (rbR : PySem.HandSPX.refsVE bmR = true)
    (saR : PySem.W.findIn K (.ref R) "__setattr__" = some (some (.builtin "object.__setattr__")))
    (bR : PySem.W.subIn K (.ref R) (.type "BaseException") = some true)
    (tR : PySem.W.typeIn K (.ref R) = some (.type "type"))
    (kR : PySem.W.keepIn K (.ref R) = true)
    (nR : PySem.W.findIn K (.ref R) "reason" = some none)
    (gaR : PySem.W.findIn K (.ref R) "__getattribute__" = some (some (.builtin "BaseException.__getattribute__")))
    (ggR : PySem.W.findIn K (.ref R) "__getattr__" = some none)
    (hdR : PySem.W.hasDictIn K R = true)
    (iM : PySem.W.isClsIn K M = true)
    (iR : PySem.W.isClsIn K R = true)
    (sMM : PySem.W.subIn K (.ref M) (.ref M) = some true)
    (sRM : PySem.W.subIn K (.ref R) (.ref M) = some false)
    (sRR : PySem.W.subIn K (.ref R) (.ref R) = some true)
    (nRM : R ≠ M)
    (pgC : PySem.W.plainGet K C Str.empty = true)
    (hdC : PySem.W.hasDictIn K C = true)
    (poC : PySem.W.plainOver K C = true)
    (saC : PySem.W.findIn K (.ref C) "__setattr__" = some (some (.builtin "object.__setattr__")))
    (haC : PySem.W.findIn K (.ref C) "__class__" = some (some (.builtin "object.__class__")))
    (hnC : PySem.W.specialIn K (.builtin "object.__class__") "__get__" = some (some (.builtin "getset_descriptor.__get__")))
    (htC : PySem.W.takesIn K (.builtin "object.__class__") = some true)
    (hmC : PySem.W.mroIn K C (.type "object") = some true)
    (pC : PySem.W.selfFirst K C = true)
    (anC : PySem.W.findIn K (.ref C) "n" = some none)
    (adC : PySem.W.findIn K (.ref C) "d" = some none)
    (tC : PySem.W.typeIn K (.ref C) = some (.type "type"))
    (iC : PySem.W.isClsIn K C = true)
    (kC : PySem.W.keepIn K (.ref C) = true)
    (mkC : PySem.W.makesIn K C = true)
    (s_NoneType : PySem.W.subIn K (.type "NoneType") (.ref C) = some false)
    (s_bool : PySem.W.subIn K (.type "bool") (.ref C) = some false)
    (s_int : PySem.W.subIn K (.type "int") (.ref C) = some false)
    (s_str : PySem.W.subIn K (.type "str") (.ref C) = some false)
    (s_tuple : PySem.W.subIn K (.type "tuple") (.ref C) = some false)
    (r__radd__ : PySem.W.findIn K (.ref C) "__radd__" = some none)
    (r__rsub__ : PySem.W.findIn K (.ref C) "__rsub__" = some none)
    (r__rmul__ : PySem.W.findIn K (.ref C) "__rmul__" = some none)
    (z_isinstance : PySem.W.nsIn K mainGlobals "isinstance" = some none)
    (z_int : PySem.W.nsIn K mainGlobals "int" = some none)
    (z_bool : PySem.W.nsIn K mainGlobals "bool" = some none)
    (z_abs : PySem.W.nsIn K mainGlobals "abs" = some none)
    (z_str : PySem.W.nsIn K mainGlobals "str" = some none)
    (z_tuple : PySem.W.nsIn K mainGlobals "tuple" = some none)
    (z_len : PySem.W.nsIn K mainGlobals "len" = some none)
    (z_all : PySem.W.nsIn K mainGlobals "all" = some none)
    (z_range : PySem.W.nsIn K mainGlobals "range" = some none)
    : ∃ fd : FuncData, (∀ (s : Shared) (v : Value), BindsTo s fd ⟨[v], []⟩ [("script", v)]) ∧ ∀ base : Heap, K.In base → base.Ns mainGlobals mg → FnOk l.prog w K mg base CX0 11 fa fd ["script"] (spLaw K) := by
  have e := hfa.symm.trans (PySem.W.mg_of X G a22)
  cases e
  have F5 := fun_mk (st := top 5) l5 c5 k5
  have b5 := F5.binds (ps := ["value"]) fun _ _ _ _ _ _ us hl => match us, hl with | [_], _ => rfl
  have g5 := PySem.W.mg_of X G a5
  have F6 := fun_mk (st := top 6) l6 c6 k6
  have b6 := F6.binds (ps := ["a", "b"]) fun _ _ _ _ _ _ us hl => match us, hl with | [_, _], _ => rfl
  have g6 := PySem.W.mg_of X G a6
  have F9 := fun_mk (st := top 9) l9 c9 k9
  have b9 := F9.binds (ps := ["value"]) fun _ _ _ _ _ _ us hl => match us, hl with | [_], _ => rfl
  have g9 := PySem.W.mg_of X G a9
  have F11 := fun_mk (st := top 11) l11 c11 k11
  have b11 := F11.binds (ps := ["script"]) fun _ _ _ _ _ _ us hl => match us, hl with | [_], _ => rfl
  have g11 := PySem.W.mg_of X G a11
  have F12 := fun_mk (st := top 12) l12 c12 k12
  have b12 := F12.binds (ps := ["state", "m"]) fun _ _ _ _ _ _ us hl => match us, hl with | [_, _], _ => rfl
  have g12 := PySem.W.mg_of X G a12
  have F13 := fun_mk (st := top 13) l13 c13 k13
  have b13 := F13.binds (ps := ["value", "due"]) fun _ _ _ _ _ _ us hl => match us, hl with | [_, _], _ => rfl
  have g13 := PySem.W.mg_of X G a13
  have F14 := fun_mk (st := top 14) l14 c14 k14
  have b14 := F14.binds (ps := ["value"]) fun _ _ _ _ _ _ us hl => match us, hl with | [_], _ => rfl
  have g14 := PySem.W.mg_of X G a14
  have F15 := fun_mk (st := top 15) l15 c15 k15
  have b15 := F15.binds (ps := ["one", "two"]) fun _ _ _ _ _ _ us hl => match us, hl with | [_, _], _ => rfl
  have g15 := PySem.W.mg_of X G a15
  have F16 := fun_mk (st := top 16) l16 c16 k16
  have b16 := F16.binds (ps := ["a", "b"]) fun _ _ _ _ _ _ us hl => match us, hl with | [_, _], _ => rfl
  have g16 := PySem.W.mg_of X G a16
  have F17 := fun_mk (st := top 17) l17 c17 k17
  have b17 := F17.binds (ps := ["act", "given"]) fun _ _ _ _ _ _ us hl => match us, hl with | [_, _], _ => rfl
  have g17 := PySem.W.mg_of X G a17
  have F18 := fun_mk (st := top 18) l18 c18 k18
  have b18 := F18.binds (ps := ["c"]) fun _ _ _ _ _ _ us hl => match us, hl with | [_], _ => rfl
  have g18 := PySem.W.mg_of X G a18
  have F19 := fun_mk (st := top 19) l19 c19 k19
  have b19 := F19.binds (ps := ["n", "d"]) fun _ _ _ _ _ _ us hl => match us, hl with | [_, _], _ => rfl
  have g19 := PySem.W.mg_of X G a19
  have F20 := fun_mk (st := top 20) l20 c20 k20
  have b20 := F20.binds (ps := ["word", "a", "b"]) fun _ _ _ _ _ _ us hl => match us, hl with | [_, _, _], _ => rfl
  have g20 := PySem.W.mg_of X G a20
  have F21 := fun_mk (st := top 21) l21 c21 k21
  have b21 := F21.binds (ps := ["x", "n", "d"]) fun _ _ _ _ _ _ us hl => match us, hl with | [_, _, _], _ => rfl
  have g21 := PySem.W.mg_of X G a21
  have F22 := fun_mk (st := top 22) l22 c22 k22
  have Fm1 := fun_mk (st := inC 8 1) lm1 cm1 km1
  have bm1 := Fm1.binds (ps := ["self", "other"]) fun _ _ _ _ _ _ us hl => match us, hl with | [_, _], _ => rfl
  have Fm2 := fun_mk (st := inC 8 2) lm2 cm2 km2
  have bm2 := Fm2.binds (ps := ["self", "other"]) fun _ _ _ _ _ _ us hl => match us, hl with | [_, _], _ => rfl
  have Fm3 := fun_mk (st := inC 8 3) lm3 cm3 km3
  have bm3 := Fm3.binds (ps := ["self", "other"]) fun _ _ _ _ _ _ us hl => match us, hl with | [_, _], _ => rfl
  have Fm4 := fun_mk (st := inC 8 4) lm4 cm4 km4
  have bm4 := Fm4.binds (ps := ["self"]) fun _ _ _ _ _ _ us hl => match us, hl with | [_], _ => rfl
  have Fm5 := fun_mk (st := inC 8 5) lm5 cm5 km5
  have bm5 := Fm5.binds (ps := ["self", "other"]) fun _ _ _ _ _ _ us hl => match us, hl with | [_, _], _ => rfl
  have Fm6 := fun_mk (st := inC 8 6) lm6 cm6 km6
  have bm6 := Fm6.binds (ps := ["self", "other"]) fun _ _ _ _ _ _ us hl => match us, hl with | [_, _], _ => rfl
  have Fm7 := fun_mk (st := inC 8 7) lm7 cm7 km7
  have bm7 := Fm7.binds (ps := ["self"]) fun _ _ _ _ _ _ us hl => match us, hl with | [_], _ => rfl
  have Fm8 := fun_mk (st := inC 8 8) lm8 cm8 km8
  have bm8 := Fm8.binds (ps := ["self", "other"]) fun _ _ _ _ _ _ us hl => match us, hl with | [_, _], _ => rfl
  have Fm9 := fun_mk (st := inC 8 9) lm9 cm9 km9
  have bm9 := Fm9.binds (ps := ["self", "k"]) fun _ _ _ _ _ _ us hl => match us, hl with | [_, _], _ => rfl
  have Fm10 := fun_mk (st := inC 8 10) lm10 cm10 km10
  have bm10 := Fm10.binds (ps := ["self"]) fun _ _ _ _ _ _ us hl => match us, hl with | [_], _ => rfl
  have Fm11 := fun_mk (st := inC 8 11) lm11 cm11 km11
  have bm11 := Fm11.binds (ps := ["self"]) fun _ _ _ _ _ _ us hl => match us, hl with | [_], _ => rfl
  have Fm12 := fun_mk (st := inC 8 12) lm12 cm12 km12
  have bm12 := Fm12.binds (ps := ["self"]) fun _ _ _ _ _ _ us hl => match us, hl with | [_], _ => rfl
  have Fm13 := fun_mk (st := inC 8 13) lm13 cm13 km13
  have bm13 := Fm13.binds (ps := ["self"]) fun _ _ _ _ _ _ us hl => match us, hl with | [_], _ => rfl
  have Fm14 := fun_mk (st := inC 8 14) lm14 cm14 km14
  have bm14 := Fm14.binds (ps := ["self"]) fun _ _ _ _ _ _ us hl => match us, hl with | [_], _ => rfl
  have FRI := fun_mk (st := inC 3 0) lRI cRI kRI
  have bRI := FRI.binds (ps := ["self", "reason"]) fun _ _ _ _ _ _ us hl => match us, hl with | [_, _], _ => rfl
  have m_isinstance := PySem.W.mg_none_of X G z_isinstance
  have m_int := PySem.W.mg_none_of X G z_int
  have m_bool := PySem.W.mg_none_of X G z_bool
  have m_abs := PySem.W.mg_none_of X G z_abs
  have m_str := PySem.W.mg_none_of X G z_str
  have m_tuple := PySem.W.mg_none_of X G z_tuple
  have m_len := PySem.W.mg_none_of X G z_len
  have m_all := PySem.W.mg_none_of X G z_all
  have m_range := PySem.W.mg_none_of X G z_range
  have FI := funD_mk (st := inC 8 0) lI cI kI lT oTd rT
  have bI0 : ∃ ds, Vals ([.int 1] : List V) ds ∧ Binds K _ ["self", "n", "d"] ds := FI.binds1 2 0 (by simp) rfl fun T kV doc pm an cdv ct us its h1 h2 => match us, its, h1, h2 with | [_, _], [_], _, _ => ⟨_, rfl, rfl⟩
  have bI1 : ∃ ds, Vals ([] : List V) ds ∧ Binds K _ ["self", "n", "d"] ds := FI.binds1 3 1 (by simp) rfl fun T kV doc pm an cdv ct us its h1 h2 => match us, its, h1, h2 with | [_, _, _], [_], _, _ => ⟨_, rfl, rfl⟩
  obtain ⟨dsI, vI, bI⟩ := bI0
  obtain ⟨ds1, v1, bI1⟩ := bI1
  cases v1
  have T4 : Cls4 K mg Fa M R C := ⟨PySem.W.mg_of X G gF, sF, tF, rF, vF, PySem.W.mg_of X G gM, xM, kM, bM, tM, PySem.W.mg_of X G gR, ⟨⟨_, _, _, _, _, _, _, _, _, _, _, _, _, _, _, lR, rbR⟩, saR, bR, tR, kR⟩, nR, ⟨gaR, ggR, bR, hdR⟩, exm_any bM iM tM sMM, exm_any bM iM tM sRM, exm_any bR iR tR sRR, PySem.W.mg_of X G gC, ⟨⟨pgC, hdC, poC, saC⟩, haC, hnC, htC, hmC, kit_me⟩, pC, anC, adC, kit_ty iC tC s_NoneType, kit_ty iC tC s_bool, kit_ty iC tC s_int, kit_ty iC tC s_str, kit_ty iC tC s_tuple, nRM⟩
  have MkC : Mk K C fI := ⟨mkC, aI, iI, kC⟩
  refine ⟨PySem.W.fnOf "law" "law" (defArgs (top 22)) (defBody (top 22)) (defScope (top 22)) .none kV22 dc22 pm22 an22 cd22 ct22, fun s v => .of_eq rfl, fun base _ _ => ?_⟩
  have O5 := ok_is_integer (P := l.prog) (w := w) (base := base) (mg := mg) F5 m_isinstance m_int m_bool
  have C5 : Cal l.prog w K mg base 1 "is_integer" (spWhole K) [] := ⟨f5, _, _, _, O5, g5, k5, b5, .nil⟩
  have O6 := ok_common (P := l.prog) (w := w) (base := base) (mg := mg) F6 m_abs
  have C6 : Cal l.prog w K mg base 1 "common" (spCommon) [] := ⟨f6, _, _, _, O6, g6, k6, b6, .nil⟩
  have ORI := ok_refused (P := l.prog) (w := w) (base := base) (mg := mg) FRI T4
  have OI := ok_ratio (P := l.prog) (w := w) (base := base) (mg := mg) FI T4 C5 C6 ORI aRI tfR bRI m_abs
  have mkR : MakX l.prog w K mg base (L2.CX l.prog w) 3 "Ratio" C (spInit (K := K) M R C) := ⟨PySem.W.mg_of X G gC, fI, _, _, OI, MkC, bI1⟩
  have mkD : MakD l.prog w K mg base (L2.CX l.prog w) 3 "Ratio" C (spInit (K := K) M R C) [.int 1] := ⟨PySem.W.mg_of X G gC, fI, _, _, dsI, OI, MkC, bI, vI⟩
  have O9 := ok_check (P := l.prog) (w := w) (base := base) (mg := mg) F9 T4 m_isinstance
  have C9 : CalX l.prog w K mg base 1 "check_ratio" (spChk K M C) [] := ⟨f9, _, _, _, O9, g9, k9, b9, .nil⟩
  have Om1 := ok_add (P := l.prog) (w := w) (base := base) (mg := mg) Fm1 T4 C9 mkR
  have M1 : MetX l.prog w K mg base (L2.CX l.prog w) 5 C "__add__" (spOp K M R C (fun p q p' q' => p * q' + p' * q) (fun p q p' q' => q * q')) := ⟨fm1, _, _, Om1, ⟨am1, im1, km1⟩, bm1⟩
  have Om2 := ok_sub (P := l.prog) (w := w) (base := base) (mg := mg) Fm2 T4 C9 mkR
  have M2 : MetX l.prog w K mg base (L2.CX l.prog w) 5 C "__sub__" (spOp K M R C (fun p q p' q' => p * q' - p' * q) (fun p q p' q' => q * q')) := ⟨fm2, _, _, Om2, ⟨am2, im2, km2⟩, bm2⟩
  have Om3 := ok_mul (P := l.prog) (w := w) (base := base) (mg := mg) Fm3 T4 C9 mkR
  have M3 : MetX l.prog w K mg base (L2.CX l.prog w) 5 C "__mul__" (spOp K M R C (fun p q p' q' => p * p') (fun p q p' q' => q * q')) := ⟨fm3, _, _, Om3, ⟨am3, im3, km3⟩, bm3⟩
  have Om4 := ok_neg (P := l.prog) (w := w) (base := base) (mg := mg) Fm4 T4 mkR
  have M4 : MetX l.prog w K mg base (L2.CX l.prog w) 5 C "__neg__" (spUn C fun p => -p) := ⟨fm4, _, _, Om4, ⟨am4, im4, km4⟩, bm4⟩
  have Om5 := ok_eq (P := l.prog) (w := w) (base := base) (mg := mg) Fm5 T4 m_isinstance
  have M5 : MetX l.prog w K mg base (CX0) 1 C "__eq__" (spEqR K C) := ⟨fm5, _, _, Om5, ⟨am5, im5, km5⟩, bm5⟩
  have Om6 := ok_less (P := l.prog) (w := w) (base := base) (mg := mg) Fm6 T4 C9
  have M6 : MetX l.prog w K mg base (L2.CX l.prog w) 2 C "less" (spLess K M C) := ⟨fm6, _, _, Om6, ⟨am6, im6, km6⟩, bm6⟩
  have Om7 := ok_str (P := l.prog) (w := w) (base := base) (mg := mg) Fm7 T4 m_str
  have M7 : MetX l.prog w K mg base (CX0) 1 C "__str__" (spAns C fun p q => .str (told p q)) := ⟨fm7, _, _, Om7, ⟨am7, im7, km7⟩, bm7⟩
  have Om8 := ok_over (P := l.prog) (w := w) (base := base) (mg := mg) Fm8 T4 C9 mkR
  have M8 : MetX l.prog w K mg base (L2.CX l.prog w) 5 C "over" (spOp K M R C (fun p q p' q' => p * q') (fun p q p' q' => q * p')) := ⟨fm8, _, _, Om8, ⟨am8, im8, km8⟩, bm8⟩
  have Om9 := ok_times (P := l.prog) (w := w) (base := base) (mg := mg) Fm9 T4 mkR
  have M9 : MetX l.prog w K mg base (L2.CX l.prog w) 5 C "times" (spTimes C) := ⟨fm9, _, _, Om9, ⟨am9, im9, km9⟩, bm9⟩
  have Om10 := ok_sign (P := l.prog) (w := w) (base := base) (mg := mg) Fm10 T4
  have M10 : MetX l.prog w K mg base (CX0) 1 C "sign" (spAns C fun p q => .int ((if 0 < p then 1 else if p < 0 then -1 else 0))) := ⟨fm10, _, _, Om10, ⟨am10, im10, km10⟩, bm10⟩
  have Om11 := ok_is_zero (P := l.prog) (w := w) (base := base) (mg := mg) Fm11 T4
  have M11 : MetX l.prog w K mg base (CX0) 1 C "is_zero" (spAns C fun p q => .bl (decide (p = 0))) := ⟨fm11, _, _, Om11, ⟨am11, im11, km11⟩, bm11⟩
  have Om12 := ok_is_whole (P := l.prog) (w := w) (base := base) (mg := mg) Fm12 T4
  have M12 : MetX l.prog w K mg base (CX0) 1 C "is_whole" (spAns C fun p q => .bl (decide (q = 1))) := ⟨fm12, _, _, Om12, ⟨am12, im12, km12⟩, bm12⟩
  have Om13 := ok_floor (P := l.prog) (w := w) (base := base) (mg := mg) Fm13 T4
  have M13 : MetX l.prog w K mg base (CX0) 1 C "floor" (spAns C fun p q => .int (p / q)) := ⟨fm13, _, _, Om13, ⟨am13, im13, km13⟩, bm13⟩
  have Om14 := ok_size (P := l.prog) (w := w) (base := base) (mg := mg) Fm14 T4 mkR m_abs
  have M14 : MetX l.prog w K mg base (L2.CX l.prog w) 5 C "size" (spUn C fun p => if p < 0 then -p else p) := ⟨fm14, _, _, Om14, ⟨am14, im14, km14⟩, bm14⟩
  have O11 := ok_law_state (P := l.prog) (w := w) (base := base) (mg := mg) F11 m_abs m_int
  have C11 : Cal l.prog w K mg base 1 "_law_state" (spState K) [] := ⟨f11, _, _, _, O11, g11, k11, b11, .nil⟩
  have O12 := ok_law_take (P := l.prog) (w := w) (base := base) (mg := mg) F12 m_int
  have C12 : Cal l.prog w K mg base 1 "_law_take" (spTake) [] := ⟨f12, _, _, _, O12, g12, k12, b12, .nil⟩
  have O13 := ok_law_says (P := l.prog) (w := w) (base := base) (mg := mg) F13 m_isinstance m_bool
  have C13 : Cal l.prog w K mg base 1 "_law_says" (spSays) [] := ⟨f13, _, _, _, O13, g13, k13, b13, .nil⟩
  have O14 := ok_law_is_whole (P := l.prog) (w := w) (base := base) (mg := mg) F14 m_isinstance m_int m_bool
  have C14 : Cal l.prog w K mg base 1 "_law_is_whole" (spWhole K) [] := ⟨f14, _, _, _, O14, g14, k14, b14, .nil⟩
  have O15 := ok_law_same (P := l.prog) (w := w) (base := base) (mg := mg) F15 m_isinstance m_tuple m_str C14
  have C15 : Cal l.prog w K mg base 2 "_law_same" (spSame) [] := ⟨f15, _, _, _, O15, g15, k15, b15, .nil⟩
  have O16 := ok_law_common (P := l.prog) (w := w) (base := base) (mg := mg) F16 m_abs m_int
  have C16 : Cal l.prog w K mg base 1 "_law_common" (spCommon) [] := ⟨f16, _, _, _, O16, g16, k16, b16, .nil⟩
  have O17 := ok_law_result (P := l.prog) (w := w) (base := base) (mg := mg) F17 T4 m_len
  have C17 : Cal l.prog w K mg base 9 "_law_result" (spRes l.prog w K mg base M R) [] := ⟨f17, _, _, _, O17, g17, k17, b17, .nil⟩
  have O18 := ok_sign_at (P := l.prog) (w := w) (base := base) (mg := mg) F18
  have C18 : Cal l.prog w K mg base 1 "_law_sign_at" (spSgn) [] := ⟨f18, _, _, _, O18, g18, k18, b18, .nil⟩
  have O21 := ok_fits (P := l.prog) (w := w) (base := base) (mg := mg) F21 T4 m_isinstance C14 C16
  have C21 : Cal l.prog w K mg base 2 "_law_fits" (spFits C) [] := ⟨f21, _, _, _, O21, g21, k21, b21, .nil⟩
  have O19 := ok_made (P := l.prog) (w := w) (base := base) (mg := mg) F19 T4 mkR
  have O20 := ok_did (P := l.prog) (w := w) (base := base) (mg := mg) F20 T4 M1 M2 M3 M8 M6 r__radd__ r__rsub__ r__rmul__
  exact ok_law F22 m_all m_range m_int m_str m_abs m_isinstance g20 g19 (PySem.W.mg_of X G gC) ⟨_, _, O20.mono (by decide), k20, b20⟩ ⟨_, _, O19.mono (by decide), k19, b19⟩ C11 C12 C14 C13 C15 C16 C18 C21 C17 M1 M2 M3 M4 M14 M9 M5 M6 M10 M11 M12 M13 M7 mkR mkD T4
end

end K01
open PySem PySem.W PyProof.Rows
set_option maxHeartbeats 0 in
theorem PySem.Challenge.cw_motionroads_k01_whole_ratios_of_shifts_holds : PySem.Challenge.rw_motionroads_k01_whole_ratios_of_shifts.Holds := by
  w_on; o_law; k_head; (case hw => w_witness2)
  k_fill
  refine L2.walk_of (l := PySem.Challenge.rw_motionroads_k01_whole_ratios_of_shifts) (n := 63) (k := 11) (x := "script") (CX := fun _ => L2.CX0) (sp := fun w => K01.spLaw _) rfl (by decide) rfl ⟨rfl, by decide, by decide⟩ (fun w h Y => PySem.W.kIn_of Y) ?F (fun _ _ a ns hl _ hS => ⟨a, ns, rfl, hS, hl, fun _ => rfl⟩) (fun _ _ _ _ _ h => h)
  case F =>
    intro w mg fa h KX G hmg
    refine' K01.all_mk KX G hmg ?gC ?gF ?gM ?gR ?a5 ?l5 ?c5 ?k5 ?a6 ?l6 ?c6 ?k6 ?a9 ?l9 ?c9 ?k9 ?a11 ?l11 ?c11 ?k11 ?a12 ?l12 ?c12 ?k12 ?a13 ?l13 ?c13 ?k13 ?a14 ?l14 ?c14 ?k14 ?a15 ?l15 ?c15 ?k15 ?a16 ?l16 ?c16 ?k16 ?a17 ?l17 ?c17 ?k17 ?a18 ?l18 ?c18 ?k18 ?a19 ?l19 ?c19 ?k19 ?a20 ?l20 ?c20 ?k20 ?a21 ?l21 ?c21 ?k21 ?a22 ?l22 ?c22 ?k22 ?am1 ?lm1 ?cm1 ?km1 ?im1 ?am2 ?lm2 ?cm2 ?km2 ?im2 ?am3 ?lm3 ?cm3 ?km3 ?im3 ?am4 ?lm4 ?cm4 ?km4 ?im4 ?am5 ?lm5 ?cm5 ?km5 ?im5 ?am6 ?lm6 ?cm6 ?km6 ?im6 ?am7 ?lm7 ?cm7 ?km7 ?im7 ?am8 ?lm8 ?cm8 ?km8 ?im8 ?am9 ?lm9 ?cm9 ?km9 ?im9 ?am10 ?lm10 ?cm10 ?km10 ?im10 ?am11 ?lm11 ?cm11 ?km11 ?im11 ?am12 ?lm12 ?cm12 ?km12 ?im12 ?am13 ?lm13 ?cm13 ?km13 ?im13 ?am14 ?lm14 ?cm14 ?km14 ?im14 ?aRI ?lRI ?cRI ?kRI ?tfR ?aI ?lI ?cI ?kI ?iI ?lT ?oTd ?rT ?sF ?tF ?rF ?vF ?xM ?kM ?bM ?tM ?lR ?rbR ?saR ?bR ?tR ?kR ?nR ?gaR ?ggR ?hdR ?iM ?iR ?sMM ?sRM ?sRR ?nRM ?pgC ?hdC ?poC ?saC ?haC ?hnC ?htC ?hmC ?pC ?anC ?adC ?tC ?iC ?kC ?mkC ?s_NoneType ?s_bool ?s_int ?s_str ?s_tuple ?r__radd__ ?r__rsub__ ?r__rmul__ ?z_isinstance ?z_int ?z_bool ?z_abs ?z_str ?z_tuple ?z_len ?z_all ?z_range
    (case gC => k_is)
    (case gF => k_is)
    (case gM => k_is)
    (case gR => k_is)
    (case a5 => k_is)
    (case l5 => k_is)
    (case c5 => k_is)
    (case k5 => k_is)
    (case a6 => k_is)
    (case l6 => k_is)
    (case c6 => k_is)
    (case k6 => k_is)
    (case a9 => k_is)
    (case l9 => k_is)
    (case c9 => k_is)
    (case k9 => k_is)
    (case a11 => k_is)
    (case l11 => k_is)
    (case c11 => k_is)
    (case k11 => k_is)
    (case a12 => k_is)
    (case l12 => k_is)
    (case c12 => k_is)
    (case k12 => k_is)
    (case a13 => k_is)
    (case l13 => k_is)
    (case c13 => k_is)
    (case k13 => k_is)
    (case a14 => k_is)
    (case l14 => k_is)
    (case c14 => k_is)
    (case k14 => k_is)
    (case a15 => k_is)
    (case l15 => k_is)
    (case c15 => k_is)
    (case k15 => k_is)
    (case a16 => k_is)
    (case l16 => k_is)
    (case c16 => k_is)
    (case k16 => k_is)
    (case a17 => k_is)
    (case l17 => k_is)
    (case c17 => k_is)
    (case k17 => k_is)
    (case a18 => k_is)
    (case l18 => k_is)
    (case c18 => k_is)
    (case k18 => k_is)
    (case a19 => k_is)
    (case l19 => k_is)
    (case c19 => k_is)
    (case k19 => k_is)
    (case a20 => k_is)
    (case l20 => k_is)
    (case c20 => k_is)
    (case k20 => k_is)
    (case a21 => k_is)
    (case l21 => k_is)
    (case c21 => k_is)
    (case k21 => k_is)
    (case a22 => k_is)
    (case l22 => k_is)
    (case c22 => k_is)
    (case k22 => k_is)
    (case am1 => k_is)
    (case lm1 => k_is)
    (case cm1 => k_is)
    (case km1 => k_is)
    (case im1 => k_is)
    (case am2 => k_is)
    (case lm2 => k_is)
    (case cm2 => k_is)
    (case km2 => k_is)
    (case im2 => k_is)
    (case am3 => k_is)
    (case lm3 => k_is)
    (case cm3 => k_is)
    (case km3 => k_is)
    (case im3 => k_is)
    (case am4 => k_is)
    (case lm4 => k_is)
    (case cm4 => k_is)
    (case km4 => k_is)
    (case im4 => k_is)
    (case am5 => k_is)
    (case lm5 => k_is)
    (case cm5 => k_is)
    (case km5 => k_is)
    (case im5 => k_is)
    (case am6 => k_is)
    (case lm6 => k_is)
    (case cm6 => k_is)
    (case km6 => k_is)
    (case im6 => k_is)
    (case am7 => k_is)
    (case lm7 => k_is)
    (case cm7 => k_is)
    (case km7 => k_is)
    (case im7 => k_is)
    (case am8 => k_is)
    (case lm8 => k_is)
    (case cm8 => k_is)
    (case km8 => k_is)
    (case im8 => k_is)
    (case am9 => k_is)
    (case lm9 => k_is)
    (case cm9 => k_is)
    (case km9 => k_is)
    (case im9 => k_is)
    (case am10 => k_is)
    (case lm10 => k_is)
    (case cm10 => k_is)
    (case km10 => k_is)
    (case im10 => k_is)
    (case am11 => k_is)
    (case lm11 => k_is)
    (case cm11 => k_is)
    (case km11 => k_is)
    (case im11 => k_is)
    (case am12 => k_is)
    (case lm12 => k_is)
    (case cm12 => k_is)
    (case km12 => k_is)
    (case im12 => k_is)
    (case am13 => k_is)
    (case lm13 => k_is)
    (case cm13 => k_is)
    (case km13 => k_is)
    (case im13 => k_is)
    (case am14 => k_is)
    (case lm14 => k_is)
    (case cm14 => k_is)
    (case km14 => k_is)
    (case im14 => k_is)
    (case aRI => k_is)
    (case lRI => k_is)
    (case cRI => k_is)
    (case kRI => k_is)
    (case tfR => k_is)
    (case aI => k_is)
    (case lI => k_is)
    (case cI => k_is)
    (case kI => k_is)
    (case iI => k_is)
    (case lT => k_is)
    (case oTd => rfl)
    (case rT => exact ⟨_, rfl⟩)
    (case sF => k_is)
    (case tF => k_is)
    (case rF => k_is)
    (case vF => k_is)
    (case xM => k_exc)
    (case kM => k_is)
    (case bM => k_is)
    (case tM => k_is)
    (case lR => k_is)
    (case rbR => rfl)
    (case saR => k_is)
    (case bR => k_is)
    (case tR => k_is)
    (case kR => k_is)
    (case nR => k_is)
    (case gaR => k_is)
    (case ggR => k_is)
    (case hdR => k_is)
    (case iM => k_is)
    (case iR => k_is)
    (case sMM => k_is)
    (case sRM => k_is)
    (case sRR => k_is)
    (case nRM => decide)
    (case pgC => k_is)
    (case hdC => k_is)
    (case poC => k_is)
    (case saC => k_is)
    (case haC => k_is)
    (case hnC => k_is)
    (case htC => k_is)
    (case hmC => k_is)
    (case pC => k_is)
    (case anC => k_is)
    (case adC => k_is)
    (case tC => k_is)
    (case iC => k_is)
    (case kC => k_is)
    (case mkC => k_is)
    (case s_NoneType => k_is)
    (case s_bool => k_is)
    (case s_int => k_is)
    (case s_str => k_is)
    (case s_tuple => k_is)
    (case r__radd__ => k_is)
    (case r__rsub__ => k_is)
    (case r__rmul__ => k_is)
    (case z_isinstance => k_is)
    (case z_int => k_is)
    (case z_bool => k_is)
    (case z_abs => k_is)
    (case z_str => k_is)
    (case z_tuple => k_is)
    (case z_len => k_is)
    (case z_all => k_is)
    (case z_range => k_is)
